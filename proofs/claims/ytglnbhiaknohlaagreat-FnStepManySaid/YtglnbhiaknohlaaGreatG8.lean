/-
  Functions of the program as plain functions of contents, and that the code computes them. Nothing here is a claim.
-/
import Derived.Test.YtglnbhiaknohlaaGreatVZ
import Derived.Test.YtglnbhiaknohlaaGreatRows
import Derived.Test.YtglnbhiaknohlaaGreatG1
import Derived.Test.YtglnbhiaknohlaaGreatG2
import Derived.Test.YtglnbhiaknohlaaGreatG3
import Derived.Test.YtglnbhiaknohlaaGreatG4
import Derived.Test.YtglnbhiaknohlaaGreatG5
import Derived.Test.YtglnbhiaknohlaaGreatG6
import Derived.Test.YtglnbhiaknohlaaGreatG7
namespace Go.Proofs.YtglnbhiaknohlaaGreat
set_option linter.defProp false
open Go.RowKit Go.Proofs.Tryz
set_option linter.unusedVariables false
set_option maxRecDepth 100000
def qA(C:av)(D:aH)(I:Int):ah (av×Bool):=(Fo C).bind λO=>letI E:=some (O,false);letI L:=(Lc O D I).bind λU=>some (U.2.1,true);(Fg C).bind λY=>bif (!Y)then E else (iT C D).bind λZ=>bif (!Z)then E else bif (C.trace.length:Int) >= 2000 then E else (cE I 0 (W6 ((C.queue.length:Int)-1))).bind λQ=>letI T:=bif (C.cz.length:Int) >= 400 then E else bif (!Q)then E else xI C.queue I λe6=>(vo C e6.line).bind λy7=>xI C.queue I λe9=>(xq C.bq y7.1 e9.write).bind λJ=>bif (!((J.kind==D.kind)&&((J.ax==D.ax)&&((J.row==D.row)&&((J.bT==D.bT)&&true)))))then E else L;bif (D.kind==2)then T else bif (D.kind==3)then T else bif (I != (-1))then bif (!Q)then E else L else L
def av9:=bw [(true,.cO),(true,.Command),(false,.int)] [(true,.cO,4),(false,.bool,0)] (fz qA) 88 [Yl,Yt,ew,Fq,Yz,ahB,av8] func16
def awa:bJ:=⟨[(1,tI),(2,.aG 2 0),(4,.aG 4 0),(5,.aG 5 0),(28,tI),(29,tI)],adS,[]⟩
def awb:aa (Nat×bJ):=[(2,⟨[(1,tI),(2,.aG 2 0),(4,.aG 4 0),(5,.aG 5 0)],adS,[]⟩)]
abbrev aif:=((Int×af×af×af×Int×Int×af)×(((aa Int)×Int×Bool×af)×(af×Int×Bool×af)×(af×Int×Bool×af)×(aa Int)×(aa Int)×af))
def Le(x:aif):ah (aif⊕(((Int×af×af×af×af)×(((aa Int)×Int×Bool×af)×(af×Int×Bool×af)×(af×Int×Bool×af)×(aa Int)×(aa Int)×af))⊕Empty)):=letI I:=((),x.2.2.1.2.1,x.2.2.1.2.2.1,());letI D:=x.2.2.2;letI E:=D.2.2.1;letI J:=((),D.1.2.1,D.1.2.2.1,());letI C:=x.1.2.2.2.2;bif C.2.1<C.1 then xL E C.2.1 λO=>letI L:=W6 (O+1);xL E C.2.1 λQ=>xG ((x.1.1,(),(),(),C.1,(W6 (C.2.1+1)),()),(x.2.1,I,J,D.2.1,(E.set C.2.1.toNat (if 5<L then 5 else L)),()))else ay ((x.1.1,(),(),(),()),(x.2.1,I,J,D.2.1,E,()))
def awc:KY 52 (aZ f48):=⟨0,lB 0 awa awb Le,lp []⟩
def Rg(D:cY)(L:Int):ah (cY):=(Cy D).bind λC=>letI J:=W6 (C.wait-1);(Ai D).bind λO=>bif (!O)then some C else (cE L 2 10000).bind λQ=>bif (!Q)then some C else bif J > 0 then some (⟨C.aJ,J,C.dD⟩:cY)else bu Le ((L,(),(),(),(C.aJ.length:Int),0,()),((D.aJ,D.wait,D.dD,()),((),0,false,()),((),J,C.dD,()),([]:aa Int),C.aJ,())) λE=>letI I:=E.2.2.2;bif E.2.1.2.2.1 then some (⟨I.2.2.1,(W6 (E.1.1.tdiv 2)),I.1.2.2.1⟩:cY)else some (⟨I.2.2.1,E.1.1,I.1.2.2.1⟩:cY)
def awd:=cg Xv [(true,.kV,2)] (bS Rg) 52 [ew,Ym,KD] [awc] func48
def awe:bJ:=⟨[(2,tI),(6,.aG 6 0),(7,.aG 7 0),(23,tI),(24,tI)],adJ,[]⟩
def awf:aa (Nat×bJ):=[(2,⟨[(6,.aG 6 0),(7,.aG 7 0)],adJ,[]⟩)]
abbrev aih:=((Int×af×af×Int×Int×af)×((af×af×af×af)×(af×af×af×af)×(aa bY)×(aa Int)×(aa Int)×(aa bY)×(aa Int)×(aa Int)×af))
def Lg(x:aih):ah (aih⊕(((af×af×af)×((af×af×af×af)×(af×af×af×af)×(aa bY)×(aa Int)×(aa Int)×(aa bY)×(aa Int)×(aa Int)×af))⊕Empty)):=letI D:=x.2.2.2;letI J:=((),(),(),());letI E:=x.1.2.2.2.2.1;letI I:=D.2.2;letI C:=I.2.2;bif E<x.1.2.2.2.1 then xL C.1 E λO=>letI L:=W6 (O+x.1.1);xL C.1 E λQ=>xG ((x.1.1,(),(),x.1.2.2.2.1,(W6 (E+1)),()),(J,J,D.1,D.2.1,I.1,I.2.1,(C.1.set E.toNat (if 100000<L then 100000 else L)),C.2.1,()))else ay (((),(),()),(J,J,D.1,D.2.1,I.1,I.2.1,C.1,C.2.1,()))
def awg:KY 41 (aZ f49):=⟨0,lB 0 awe awf Lg,lp []⟩
def Lh(J:aM)(E:dm)(I:Int):ah (dm):=(Fk E).bind λC=>(Fb J E).bind λL=>bif (!L)then some C else (cE I 0 100000).bind λO=>bif (!O)then some C else bu Lg ((I,(),(),(C.bz.length:Int),0,()),(((),(),(),()),((),(),(),()),([]:aa bY),([]:aa Int),([]:aa Int),C.cells,C.bz,C.br,())) λQ=>letI D:=Q.2.2.2.2.2.2;some (⟨D.1,D.2.1,D.2.2.1⟩:dm)
def awh:=cg [(true,.fM),(true,.Array),(false,.int)] [(true,.Array,4)] (fz Lh) 41 [ew,agW,ahh] [awg] func49
def Fy(C:gx)(D:Int):ah (gx):=(Cr C).bind λE=>bif (!E)then some C else bif D >= C.high then some (⟨true,C.low,C.high⟩:gx)else bif D <= C.low then some (⟨false,C.low,C.high⟩:gx)else some C
def awi:=bw [(true,.od),(false,.int)] [(true,.od,0)] (bS Fy) 22 [Qv] func50
abbrev aii:=((Bool×Int×(aa aX)×Int×Int×af)×(af))
def Li(x:aii):ah (aii⊕(((Int×af)×(af))⊕Empty)):=letI C:=x.1.2.2;letI D:=C.2.2.1;bif D<C.2.1 then xI C.1 D λE=>bif (E.write==x.1.1)then xG ((x.1.1,(W6 (x.1.2.1+1)),C.1,C.2.1,(W6 (D+1)),()),())else xG ((x.1.1,x.1.2.1,C.1,C.2.1,(W6 (D+1)),()),())else ay ((x.1.2.1,()),())
def awj:KY 22 (aZ f51):=⟨0,lB 0 ⟨[(1,tB),(5,tI),(8,.lf (.aD .di 0)),(9,tI),(10,tI)],[],[]⟩ [(2,vi)] Li,lp []⟩
def Fz(C:aa aX)(D:Bool):ah (Int):=bu Li ((D,0,C,(C.length:Int),0,()),()) λE=>some E.1.1
def awk:=cg [(false,(.sl .di)),(false,.bool)] dN (bS Fz) 22 [] [awj] func51
def FA(C:eR)(E:Bool):ah (eR):=letI D:=W6 (C.idle+1);(Cx C).bind λI=>bif (!I)then some C else bif E then some (⟨C.state,C.since,0⟩:eR)else some (⟨C.state,C.since,(if 1000000<D then 1000000 else D)⟩:eR)
def awl:=bw [(true,.Power),(false,.bool)] [(true,.Power,0)] (bS FA) 18 [QG] func52
abbrev aij:=((af×(aa Int)×Int×Int×af)×((aa Int)×af))
def Lj(x:aij):ah (aij⊕(((af×af)×((aa Int)×af))⊕Empty)):=letI C:=x.1.2.2.2.1;letI D:=((),x.1.2.1,x.1.2.2.1,(W6 (C+1)),());bif C<x.1.2.2.1 then xI x.1.2.1 C λE=>bif E >= 4 then bif bC (x.2.1.length+([C]:aa Int).length)then xG (D,((x.2.1++([C]:aa Int)),()))else none else xG (D,(x.2.1,()))else ay (((),()),(x.2.1,()))
def awm:KY 26 (aZ f128):=⟨0,lB 0 ⟨[(3,.lf (.own 9)),(11,.lf (.aD .int 0)),(12,tI),(13,tI)],[(9,.sl .int 2)],[]⟩ [(2,⟨[(3,.lf (.own 9))],[(9,.sl .int 2)],[]⟩)] Lj,lp []⟩
def FB(C:cY):ah ((aa Int)):=(Ai C).bind λD=>bif (!D)then some ([])else bu Lj (((),C.aJ,(C.aJ.length:Int),0,()),(([]:aa Int),())) λE=>some E.2.1
def YI:=cg Eu mm (bR FB) 26 [KD] [awm] func128
def Am(C:av):ah (Bool):=bif (C.queue.length:Int) > 0 then some true else bif (C.pending.length:Int) > 0 then some true else (FB C.aQ).bind λD=>some ((D.length:Int) > 0)
def aik:=bw w5 cm (bR Am) 20 [YI] func53
def Lk(C:fU)(E:Bool):ah (fU×Bool):=(KM C).bind λD=>bif (!E)then some (D,false)else bif (!C.waits)then some (D,false)else (Fh C.next).bind λI=>some ((⟨I,D.next,false⟩:fU),true)
def awn:=bw [(true,.oe),(false,.bool)] OM (bS Lk) 23 [ahd,ahc] func54
def xy(C:kS)(D:Int):ah (kS×Int):=letI E:=some (C,(-1));(cE C.every 1 100000).bind λI=>bif (!I)then E else (cE C.wait 1 C.every).bind λJ=>bif (!J)then E else bif D<1 then E else (cE C.next 0 (W6 (D-1))).bind λL=>bif (!L)then E else bif (W6 (C.wait-1)) > 0 then some ((⟨C.next,C.every,(W6 (C.wait-1))⟩:kS),(-1))else if D=0 then none else some ((⟨((W6 (C.next+1)).tmod D),C.every,C.every⟩:kS),C.next)
def awo:=bw [(true,.qS),(false,.int)] [(true,.qS,0),(false,.int,0)] (bS xy) 52 [ew] func56
def Rh(D:n9)(C:eR)(E:Bool):ah (Int):=letI I:=bif (C.state==1)then bif C.idle >= D.sleep then some 7 else some 0 else some 0;letI J:=bif (C.state==0)then bif C.idle >= D.down then some 6 else I else I;letI L:=bif E then some 0 else bif (C.state==0)then bif C.idle >= D.sleep then some 8 else J else J;letI O:=bif E then bif (C.state==2)then some 9 else L else L;(Kt D).bind λQ=>bif (!Q)then some 0 else (Cx C).bind λT=>bif (!T)then some 0 else bif E then bif (C.state==1)then some 7 else O else O
def awp:=bw [(true,.r5),(true,.Power),(false,.bool)] dN (fz Rh) 64 [QG,agM] func209
def An(D:av)(C:Int)(E:aH):ah (aH):=xI D.bq.aC C λI=>bif I.open_ then some (⟨4,C,0,0⟩:aH)else some E
def YJ:=bw [(true,.cO),(false,.int),(true,.Command)] IF (fz An) 17 [] func210
def vp(C:aa Int)(D:Int):ah (Bool):=(Cu C D).bind λE=>some (decide (E >= 0))
def YK:=bw Es cm (bS vp) 9 [Yi] func211
def awq:enters Tryz.prog 290/\qm Tryz.prog 290 (cj Tryz.prog f290 1 []):=OD (Iv 1 [] func290 trivial)
abbrev ail:=(((aa aK)×Int×Int×Int×af)×(af))
def FC(x:ail):ah (ail⊕(((Int×af)×(af))⊕(((af)×(af))⊕Empty))):=letI C:=x.1.2.2.2.1;bif C<x.1.2.2.1 then xI x.1.1 C λD=>bif (D.ax==x.1.2.1)then ay ((C,()),())else xG ((x.1.1,x.1.2.1,x.1.2.2.1,(W6 (C+1)),()),())else aV ((),())
def awr:KY 19 (aZ f234):=⟨0,lB 0 ⟨[(0,.lf (.aD .Addr 0)),(1,.fc 290 .int),(7,tI),(8,tI)],[],[]⟩ [(1,wZ),(2,fG)] FC,lp [⟨290,.i _,awq⟩]⟩
def YL(C:aa aK)(D:Int):ah (Int):=(iter FC aP ((C,D,(C.length:Int),0,()),())).bind (Sum.elim (λE=>some E.1.1) (Sum.elim (λI=>some (-1)) (λz=>nomatch z)))
def aws:KX:=⟨234,.q (gp [(false,(.sl .Addr)),(false,(.yp 290))] [(false,.int,0)] λx=>YL x.1 x.2.1),kq 19 [] [awr] func234⟩
def YM(C:aa aK)(D:Int):ah (Bool):=(YL C D).bind λE=>some (decide (E >= 0))
def awt:KX:=⟨289,.q (gp [(false,(.sl .Addr)),(false,(.yp 290))] [(false,.bool,0)] λx=>YM x.1 x.2.1),kp 9 [aws] func289⟩
def CD(C:aa aK)(D:Int):ah (Bool):=(YM C D).bind λE=>some E
def YN:=bw [(false,(.sl .Addr)),(false,.int)] cm (bS CD) 8 [awt] func212
abbrev aim:=((af×af×(aa aX)×Int×Int×af)×(av×(aa aK)×af))
def Ll(x:aim):ah (aim⊕(((af×af)×((aa aK)×af))⊕Empty)):=letI C:=x.1.2.2;bif C.2.2.1<C.2.1 then xI C.1 C.2.2.1 λE=>(vo x.2.1 E.line).bind λD=>bif bC (x.2.2.1.length+([D.1]:aa aK).length)then xG (((),(),C.1,C.2.1,(W6 (C.2.2.1+1)),()),(x.2.1,(x.2.2.1++([D.1]:aa aK)),()))else none else ay (((),()),(x.2.2.1,()))
def awu:KY 29 (aZ f213):=⟨0,lB 0 ⟨[(1,.aG 1 0),(3,.lf (.own 8)),(10,.lf (.aD .di 0)),(11,tI),(12,tI)],[(1,.st .cO),(8,.sl .Addr 2)],[]⟩ [(2,⟨[(3,.lf (.own 8))],[(8,.sl .Addr 2)],[]⟩)] Ll,lp [Yz]⟩
def Ri(C:av):ah ((aa aK)):=bu Ll (((),(),C.queue,(C.queue.length:Int),0,()),(C,([]:aa aK),())) λD=>some D.2.1
def awv:=cg w5 [(false,(.sl .Addr),2)] (bR Ri) 29 [] [awu] func213
abbrev ain:=(((aa aX)×Int×(aa aX)×Int×Int×af)×(af))
def FD(x:ain):ah (ain⊕(((Bool×af)×(af))⊕(((af)×(af))⊕Empty))):=letI C:=x.1.2.2;bif C.2.2.1<C.2.1 then xI C.1 C.2.2.1 λD=>xI x.1.1 x.1.2.1 λE=>bif (D.line==E.line)then ay ((true,()),())else xG ((x.1.1,x.1.2.1,C.1,C.2.1,(W6 (C.2.2.1+1)),()),())else aV ((),())
def aww:KY 30 (aZ f291):=⟨0,lB 0 ⟨[(0,.lf (.aD .di 0)),(1,tI),(15,.lf (.aD .di 0)),(16,tI),(17,tI)],[],[]⟩ [(1,ia),(2,fG)] FD,lp []⟩
def Rj(D:aa aX)(C:Int):ah (Bool):=letI E:=(D.take C.toNat).drop (0:Int).toNat;(cE C 0 (W6 ((D.length:Int)-1))).bind λI=>bif (!I)then some false else if 0 <= (0:Int)/\0 <= C/\C <= (D.length:Int)then bQ FD ((D,C,E,(E.length:Int),0,()),()) (λJ=>some J.1.1) λL=>some false else none
def awx:=cg OK cm (bS Rj) 30 [ew] [aww] func291
def Rk(C:gx)(D:Int)(E:Bool):ah (Bool):=(Cr C).bind λI=>bif (!I)then some false else bif E then bif C.on then some true else some (D<1)else some (!C.on)
def awy:=bw [(true,.od),(false,.int),(false,.bool)] cm (fz Rk) 20 [Qv] func292
def Ln(C:cK)(D:Int):ah (Int):=(cE D 0 (W6 ((C.aC.length:Int)-1))).bind λE=>bif (!E)then some (-1)else xI C.aC D λI=>bif (!I.open_)then some (-1)else xI C.aC D λJ=>some J.row
def awz:=bw [(true,.gV),(false,.int)] dN (bS Ln) 27 [ew] func340
def FE(D:cK)(C:aK):ah (Bool):=bif (C.row != (-1))then (Ln D C.ax).bind λE=>some (E==C.row)else some false
def awA:=bw [(true,.gV),(true,.Addr)] cm (bS FE) 17 [awz] func293
abbrev aio:=(((aa Bool)×(aa Bool)×Int×Int×Int×Int×(aa aX)×Int×Int×af)×(af))
def Ao(x:aio):ah (aio⊕(((Int×af)×(af))⊕(((Int×Int×af)×(af))⊕Empty))):=letI I:=x.1.2.1;letI C:=x.1.2.2;letI J:=C.2.2.1;letI E:=C.2.2.2;letI u8:=E.2.2.1;letI D:=E.2.2.2.1;letI L:=W6 (D+1);letI O:=xG ((x.1.1,I,C.1,C.2.1,J,E.1,E.2.1,u8,L,()),());letI Q:=bif J<0 then xG ((x.1.1,I,C.1,C.2.1,D,E.1,E.2.1,u8,L,()),())else O;bif D<u8 then xI E.2.1 D λT=>bif D >= (x.1.1.length:Int)then O else xI x.1.1 D λU=>bif (!U)then O else bif T.at_ <= (W6 (C.2.1-C.1))then ay ((D,()),())else bif E.1<0 then bif D<(I.length:Int)then xI I D λY=>bif Y then bif J<0 then xG ((x.1.1,I,C.1,C.2.1,D,D,E.2.1,u8,L,()),())else xG ((x.1.1,I,C.1,C.2.1,J,D,E.2.1,u8,L,()),())else Q else Q else Q else aV ((J,E.1,()),())
def awB:KY 71 (aZ f294):=⟨0,lB 0 ⟨[(1,.lf (.aD .bool 0)),(2,.lf (.aD .bool 0)),(3,tI),(4,tI),(11,tI),(12,tI),(23,.lf (.aD .di 0)),(24,tI),(25,tI)],[],[]⟩ [(1,⟨[(10,tI)],[],[]⟩),(2,⟨[(11,tI),(12,tI)],[],[]⟩)] Ao,lp []⟩
def Ro(D:aa aX)(J L:aa Bool)(E I:Int):ah (Int):=(cE E 0 1000000).bind λO=>bif (!O)then some (-1)else (cE I 0 1000000).bind λQ=>bif (!Q)then some (-1)else bQ Ao ((J,L,E,I,(-1),(-1),D,(D.length:Int),0,()),()) (λT=>some T.1.1) λC=>bif C.1.2.1 >= 0 then some C.1.2.1 else some C.1.1
def awC:=cg ad2 dN (Iw Ro) 71 [ew] [awB] func294
def awD:bJ:=⟨[(1,.lf (.aD .int 0)),(2,.lf (.aD .Addr 0)),(3,.aG 3 0),(6,.aG 6 0),(8,.aG 8 0),(9,.lf (.own 38)),(10,tI),(11,tI),(40,.lf (.aD .di 0)),(41,tI),(42,tI)],aec,[]⟩
def awE:aa (Nat×bJ):=[(2,⟨[(1,.lf (.aD .int 0)),(2,.lf (.aD .Addr 0)),(3,.aG 3 0),(6,.aG 6 0),(8,.aG 8 0),(9,.lf (.own 38)),(10,tI),(11,tI)],aec,[]⟩)]
abbrev aip:=(((aa Int)×(aa aK)×af×af×af×af×Int×Int×(aa aX)×Int×Int×af)×(av×(Int×Int×Int×Int×af)×(Int×Int×Int×Int×Int×(aa Int)×Int×Int×af)×(aa Bool)×af))
def FF(x:aip):ah (aip⊕((((aa Int)×(aa aK)×af×af×af×af×Int×Int×af)×(av×(Int×Int×Int×Int×af)×(Int×Int×Int×Int×Int×(aa Int)×Int×Int×af)×(aa Bool)×af))⊕Empty)):=letI I:=x.2.2.2;letI C:=x.1.2.2.2.2.2.2;letI D:=C.2.2;letI E:=D.2.2.1;letI J:=W6 (E+1);bif E<D.2.1 then xI D.1 E λT=>(Rj x.2.1.queue E).bind λU=>letI L:=I.2.1.set E.toNat (!U);letI O:=(x.2.1,x.2.2.1,I.1,L,());letI Q:=xL L E λY=>bif Y then xG ((x.1.1,x.1.2.1,(),(),(),(),(W6 (C.1+1)),C.2.1,D.1,D.2.1,J,()),O)else xG ((x.1.1,x.1.2.1,(),(),(),(),C.1,C.2.1,D.1,D.2.1,J,()),O);xL I.2.1 E λe6=>xL L E λZ=>bif Z then bif T.write then xG ((x.1.1,x.1.2.1,(),(),(),(),C.1,(W6 (C.2.1+1)),D.1,D.2.1,J,()),O)else Q else Q else ay ((x.1.1,x.1.2.1,(),(),(),(),C.1,C.2.1,()),(x.2.1,x.2.2.1,I.1,I.2.1,()))
def awF:KY 286 (aZ f214):=⟨0,lB 0 awD awE FF,lp [awx]⟩
def awG:bJ:=⟨[(1,.lf (.aD .int 0)),(2,.lf (.aD .Addr 0)),(3,.aG 3 0),(6,.aG 6 0),(8,.aG 8 0),(9,.lf (.own 38)),(10,tI),(11,tI),(14,.lf (.own 77)),(15,.lf (.own 81)),(16,.pk 82 4294967296),(84,.lf (.aD .di 0)),(85,tI),(86,tI)],[(3,.st .cO),(6,.aB fA),(8,.aB zL),(38,.sl .bool 2),(77,.sl .bool 2),(81,.sl .bool 2),(82,.mp)],[]⟩
def awH:aa (Nat×bJ):=[(5,⟨[(1,.lf (.aD .int 0)),(2,.lf (.aD .Addr 0)),(3,.aG 3 0),(6,.aG 6 0),(8,.aG 8 0),(14,.lf (.own 77)),(15,.lf (.own 81)),(16,.pk 82 4294967296)],[(3,.st .cO),(6,.aB fA),(8,.aB zL),(77,.sl .bool 2),(81,.sl .bool 2),(82,.mp)],[]⟩)]
abbrev aiq:=(((aa Int)×(aa aK)×af×af×af×af×Int×Int×af×af×af×(aa aX)×Int×Int×af)×(av×(Int×Int×Int×Int×af)×(Int×Int×Int×Int×Int×(aa Int)×Int×Int×af)×(aa Bool)×(aa Bool)×(aa Bool)×(aa (Int×Bool))×af))
def FG(x:aiq):ah (aiq⊕((((aa Int)×(aa aK)×af×af×af×af×af×af×af)×(av×(Int×Int×Int×Int×af)×(Int×Int×Int×Int×Int×(aa Int)×Int×Int×af)×(aa Bool)×(aa Bool)×(aa (Int×Bool))×af))⊕Empty)):=letI Y:=x.2.2.2.2;letI Z:=x.1.2.2.2.2.2.2;letI YO:=Z.2.2.2.2.2;let p0:=x.1.1;let E:=x.1.2.1;let p2:=Z.1;let p3:=Z.2.1;let p4:=YO.1;let p5:=YO.2.1;let C:=YO.2.2.1;letI U:=(p0,E,(),(),(),(),p2,p3,(),(),(),p4,p5,(W6 (C+1)),());let D:=x.2.1;let I:=x.2.2.1;let J:=x.2.2.2.1;let L:=Y.1;let O:=Y.2.1;letI u9:=O.set C.toNat true;letI u7:=O.set C.toNat false;letI u6:=O.set C.toNat (p3==0);let Q:=Y.2.2.1;let T:=Y.2.2.2.1;letI u1:=xL O C λe59=>xI E C λe61=>(FE D.bq e61).bind λy62=>letI u8:=Q.set C.toNat y62;letI u3:=xG (U,(D,I,J,L,u7,u8,T,()));xL Q C λe65=>xL u7 C λe68=>bif e68 then xL u8 C λe71=>bif e71 then xI E C λe73=>xG (U,(D,I,J,L,u7,u8,(nP T e73.ax true),()))else u3 else u3;bif C<p5 then xI p4 C λJn=>xL L C λE0=>bif E0 then (Rk D.drain p2 Jn.write).bind λlG=>bif lG then xL O C λxh=>xI E C λvk=>(FE D.bq vk).bind λE1=>letI CE:=Q.set C.toNat E1;letI u4:=xG (U,(D,I,J,L,u9,CE,T,()));xL Q C λe31=>xL u9 C λe34=>bif e34 then xL CE C λYC=>bif YC then xI E C λe39=>xG (U,(D,I,J,L,u9,CE,(nP T e39.ax true),()))else u4 else u4 else bif (!Jn.write)then xL O C λe42=>xI E C λe44=>(FE D.bq e44).bind λLo=>letI sJ:=Q.set C.toNat Lo;letI u2:=xG (U,(D,I,J,L,u6,sJ,T,()));xL Q C λe48=>xL u6 C λe51=>bif e51 then xL sJ C λe54=>bif e54 then xI E C λXT=>xG (U,(D,I,J,L,u6,sJ,(nP T XT.ax true),()))else u2 else u2 else u1 else u1 else ay ((p0,E,(),(),(),(),(),(),()),(D,I,J,O,Q,T,()))
def awI:KY 286 (aZ f214):=⟨3,lB 3 awG awH FG,lp [awy,awA]⟩
def awJ:bJ:=⟨[(1,.lf (.aD .int 0)),(2,.lf (.aD .Addr 0)),(3,.aG 3 0),(6,.aG 6 0),(8,.aG 8 0),(14,.lf (.own 77)),(15,.lf (.own 81)),(16,.pk 82 4294967296),(19,.lf (.own 142)),(20,.lf (.own 146)),(21,.lf (.own 147)),(149,.lf (.aD .di 0)),(150,tI),(151,tI)],[(3,.st .cO),(6,.aB fA),(8,.aB zL),(77,.sl .bool 2),(81,.sl .bool 2),(82,.mp),(142,.sl .Command 2),(146,.sl .bool 2),(147,.sl .bool 2)],[]⟩
def awK:aa (Nat×bJ):=[(7,⟨[(3,.aG 3 0),(6,.aG 6 0),(8,.aG 8 0),(15,.lf (.own 81)),(19,.lf (.own 142)),(20,.lf (.own 146)),(21,.lf (.own 147))],[(3,.st .cO),(6,.aB fA),(8,.aB zL),(81,.sl .bool 2),(142,.sl .Command 2),(146,.sl .bool 2),(147,.sl .bool 2)],[]⟩)]
abbrev air:=(((aa Int)×(aa aK)×af×af×af×af×af×af×af×af×af×(aa aX)×Int×Int×af)×(av×(Int×Int×Int×Int×af)×(Int×Int×Int×Int×Int×(aa Int)×Int×Int×af)×(aa Bool)×(aa Bool)×(aa (Int×Bool))×(aa aH)×(aa Bool)×(aa Bool)×af))
def CF(x:air):ah (air⊕(((af×af×af×af×af×af×af×af)×(av×(Int×Int×Int×Int×af)×(Int×Int×Int×Int×Int×(aa Int)×Int×Int×af)×(aa Bool)×(aa aH)×(aa Bool)×(aa Bool)×af))⊕Empty)):=letI u9:=x.2.2.2.2.2;letI u7:=x.1.2.2.2.2.2.2.2.2.2.2.2;let p0:=x.1.1;let p1:=x.1.2.1;let p2:=u7.1;let p3:=u7.2.1;let C:=u7.2.2.1;letI Z:=(p0,p1,(),(),(),(),(),(),(),(),(),p2,p3,(W6 (C+1)),());let D:=x.2.1;let J:=x.2.2.1;let L:=x.2.2.2.1;let p8:=x.2.2.2.1.2.1;let E:=x.2.2.2.2.1;let O:=u9.1;let Q:=u9.2.1;let YP:=u9.2.2.1;let T:=u9.2.2.2.1;letI sJ:=T.set C.toNat false;letI CE:=T.set C.toNat true;let I:=u9.2.2.2.2.1;bif C<p3 then xI p2 C λFH=>letI u8:=I.set FH.dI.toNat true;letI u5:=T.set C.toNat (!((W6 (D.now-FH.at_))<p8));xI p1 C λRp=>xI p1 C λe97=>(xq D.bq e97 FH.write).bind λU=>letI u4:=YP++([U]:aa aH);letI u3:=xL T C λaDl=>xL CE C λawL=>bif awL then xL I FH.dI λaDm=>xG (Z,(D,J,L,E,O,Q,u4,CE,u8,()))else xG (Z,(D,J,L,E,O,Q,u4,CE,I,()));letI u1:=bif (U.kind==4)then bif (mP Q Rp.ax)then xL T C λaDn=>xL u5 C λawM=>bif awM then xL I FH.dI λaDo=>xG (Z,(D,J,L,E,O,Q,u4,u5,u8,()))else xG (Z,(D,J,L,E,O,Q,u4,u5,I,()))else u3 else u3;letI Y:=xL T C λaDp=>xL sJ C λawN=>bif awN then xL I FH.dI λaDq=>xG (Z,(D,J,L,E,O,Q,u4,sJ,u8,()))else xG (Z,(D,J,L,E,O,Q,u4,sJ,I,()));letI u6:=(CD D.pending Rp.ax).bind λawO=>bif (!awO)then u1 else Y;bif bC (YP.length+([U]:aa aH).length)then bif (U.kind==1)then xL E C λawP=>bif awP then (vp p0 Rp.ax).bind λawQ=>bif (!awQ)then (iT D U).bind λawR=>bif awR then u6 else Y else Y else Y else xL E C λawS=>bif awS then (vp p0 Rp.ax).bind λawT=>bif (!awT)then (iT D U).bind λawU=>bif awU then bif (U.kind==4)then u6 else u1 else Y else Y else Y else none else ay (((),(),(),(),(),(),(),()),(D,J,L,O,YP,T,I,()))
def awV:KY 286 (aZ f214):=⟨5,lB 5 awJ awK CF,lp [Fq,ahB,YK,YN]⟩
def awW:bJ:=⟨[(3,.aG 3 0),(6,.aG 6 0),(8,.aG 8 0),(15,.lf (.own 81)),(19,.lf (.own 142)),(20,.lf (.own 146)),(28,tI),(248,.lf (.aD .di 0)),(249,tI),(250,tI)],adW,[]⟩
def awX:aa (Nat×bJ):=[(9,⟨[(3,.aG 3 0),(6,.aG 6 0),(8,.aG 8 0),(15,.lf (.own 81)),(19,.lf (.own 142)),(20,.lf (.own 146))],adW,[]⟩)]
abbrev ais:=((af×af×af×af×af×af×Int×(aa aX)×Int×Int×af)×(av×(Int×Int×Int×Int×af)×(Int×Int×Int×Int×Int×(aa Int)×Int×Int×af)×(aa Bool)×(aa aH)×(aa Bool)×af))
def FI(x:ais):ah (ais⊕(((af×af×af×af×af×af×af)×(av×(Int×Int×Int×Int×af)×(Int×Int×Int×Int×Int×(aa Int)×Int×Int×af)×(aa Bool)×(aa aH)×(aa Bool)×af))⊕Empty)):=letI D:=x.2.2;letI E:=D.2.2;letI J:=E.2.2.1;letI I:=x.1.2.2.2.2.2.2;letI C:=I.2.2.2.1;letI L:=((),(),(),(),(),(),I.1,I.2.1,I.2.2.1,(W6 (C+1)),());bif C<I.2.2.1 then xI I.2.1 C λO=>xL J C λQ=>bif Q then xL J C λT=>xG (L,(x.2.1,D.1,D.2.1,E.1,E.2.1,(J.set C.toNat (O.dI==I.1)),()))else xL J C λU=>xG (L,(x.2.1,D.1,D.2.1,E.1,E.2.1,(J.set C.toNat false),()))else ay (((),(),(),(),(),(),()),(x.2.1,D.1,D.2.1,E.1,E.2.1,J,()))
def awY:KY 286 (aZ f214):=⟨7,lB 7 awW awX FI,lp []⟩
def Rq(C:av)(x1:aa Int)(x2:aa aK):ah (aH×Int):=letI J:=(C.queue.length:Int);if 0 <= J/\J <= J/\J<1073741824 then bu FF ((x1,x2,(),(),(),(),0,0,C.queue,J,0,()),(C,(0,0,0,0,()),(C.box.bV.eS,C.box.bV.cap,C.box.bV.eZ,C.box.bV.low,C.box.bV.high,C.box.bV.weights,C.box.bV.dS.down,C.box.bV.dS.sleep,()),(List.replicate J.toNat false),())) λE=>letI D:=(E.2.1.queue.length:Int);if 0 <= D/\D <= D/\D<1073741824 then if 0 <= D/\D <= D/\D<1073741824 then bu FG ((E.1.1,E.1.2.1,(),(),(),(),E.1.2.2.2.2.2.2.1,E.1.2.2.2.2.2.2.2.1,(),(),(),E.2.1.queue,D,0,()),(E.2.1,E.2.2.1,E.2.2.2.1,E.2.2.2.2.1,(List.replicate D.toNat false),(List.replicate D.toNat false),([]:aa (Int×Bool)),())) λU=>letI I:=U.2;letI L:=(I.1.queue.length:Int);if 0 <= L/\L <= L/\L<1073741824 then if 0 <= (4:Int)/\(4:Int) <= 4/\(4:Int)<1073741824 then bu CF ((U.1.1,U.1.2.1,(),(),(),(),(),(),(),(),(),I.1.queue,L,0,()),(I.1,I.2.1,I.2.2.1,I.2.2.2.1,I.2.2.2.2.1,I.2.2.2.2.2.1,([]:aa aH),(List.replicate L.toNat false),(List.replicate (4:Int).toNat false),())) λO=>letI Q:=O.2.2.2;(qz O.2.1.shares Q.2.2.2.2.1).bind λawZ=>bu FI (((),(),(),(),(),(),awZ.2,O.2.1.queue,(O.2.1.queue.length:Int),0,()),(O.2.1,O.2.2.1,Q.1,Q.2.1,Q.2.2.1,Q.2.2.2.1,())) λY=>letI T:=Y.2.2.2;(Ro Y.2.1.queue T.2.2.2.1 T.2.1 T.1.2.1 Y.2.1.now).bind λZ=>bif Z<0 then some ((⟨0,0,0,0⟩:aH),(-1))else xL T.2.2.1 Z λaw0=>some (aw0,Z)else none else none else none else none else none
def aw1:=cg [(true,.cO),(false,(.sl .int)),(false,(.sl .Addr))] [(true,.Command,0),(false,.int,0)] (fz Rq) 286 [ah9,awC] [awF,awI,awV,awY] func214
abbrev ait:=(((aa Bool)×af×Bool×Int×(aa Int)×Int×Int×af)×(((aa Int)×Int×Bool×af)×af))
def Lp(x:ait):ah (ait⊕(((Int×af)×(af))⊕Empty)):=letI C:=x.1.2.2;letI D:=C.2.2;letI E:=D.2.2.1;letI O:=xG ((x.1.1,(),C.1,E,D.1,D.2.1,(W6 (E+1)),()),(x.2.1,()));letI I:=xG ((x.1.1,(),C.1,C.2.1,D.1,D.2.1,(W6 (E+1)),()),(x.2.1,()));bif E<D.2.1 then xI D.1 E λJ=>letI Q:=bif C.2.1<0 then O else xI x.2.1.1 C.2.1 λT=>bif J > T then O else I;letI L:=bif J >= 4 then Q else I;bif J > 0 then bif E<(x.1.1.length:Int)then xI x.1.1 E λU=>bif C.1 then L else bif U then Q else I else bif C.1 then L else I else bif C.1 then L else I else ay ((C.2.1,()),())
def aw2:KY 59 (aZ f295):=⟨0,lB 0 ⟨[(1,.lf (.aD .bool 0)),(2,.aG 2 0),(5,tB),(6,tI),(18,.lf (.aD .int 0)),(19,tI),(20,tI)],[(2,.aB BX)],[]⟩ [(2,IE)] Lp,lp []⟩
def Lq(C:cY)(D:aa Bool):ah (Int):=(Ai C).bind λE=>bif (!E)then some (-1)else (FB C).bind λI=>bu Lp ((D,(),(decide ((I.length:Int) > 0)),(-1),C.aJ,(C.aJ.length:Int),0,()),((C.aJ,C.wait,C.dD,()),())) λJ=>some J.1.1
def aw3:=cg [(true,.kV),(false,(.sl .bool))] dN (bS Lq) 59 [KD,YI] [aw2] func295
def aw4:bJ:=⟨[(2,.lf (.aD .Addr 0)),(3,.aG 3 0),(8,tI),(9,tB),(15,.lf (.own 1000000000115000)),(16,tI),(17,tI),(21,.lf (.aD .Addr 0)),(22,tI),(23,tI)],Xx,[]⟩
def aw5:aa (Nat×bJ):=[(4,⟨[(2,.lf (.aD .Addr 0)),(3,.aG 3 0),(8,tI),(9,tB),(15,.lf (.own 1000000000115000)),(16,tI),(17,tI)],Xx,[]⟩)]
abbrev aiu:=(((aa aK)×af×Int×Bool×af×Int×Int×(aa aK)×Int×Int×af)×(((aa eP)×Int×af)×(aa Int)×af))
def FJ(x:aiu):ah (aiu⊕((((aa aK)×af×Int×Bool×af×Int×Int×af)×(((aa eP)×Int×af)×(aa Int)×af))⊕Empty)):=letI D:=x.1.2.2;letI I:=(x.2.1,x.2.2.1,());letI E:=D.2.2.2;letI C:=E.2.2;letI J:=W6 (C.2.2.1+1);bif C.2.2.1<C.2.1 then xI C.1 C.2.2.1 λL=>bif D.2.1 then xG ((x.1.1,(),D.1,true,(),E.1,E.2.1,C.1,C.2.1,J,()),I)else bif (L.ax==D.1)then xI x.2.1.1 D.1 λO=>xG ((x.1.1,(),D.1,(L.row==O.row),(),E.1,E.2.1,C.1,C.2.1,J,()),I)else xG ((x.1.1,(),D.1,false,(),E.1,E.2.1,C.1,C.2.1,J,()),I)else ay ((x.1.1,(),D.1,D.2.1,(),E.1,E.2.1,()),I)
def aw6:KY 50 (rK (aZ f296) 0):=⟨2,lB 2 aw4 aw5 FJ,lp []⟩
abbrev aiv:=(((aa aK)×af×af×Int×Int×af)×(((aa eP)×Int×af)×(aa Int)×af))
def CG(x:aiv):ah (aiv⊕(((Int×af)×(af))⊕(((af)×(af))⊕Empty))):=letI C:=x.1.2.2.2;bif C.2.1<C.1 then xL x.2.2.1 C.2.1 λI=>bu FJ ((x.1.1,(),I,false,(),C.1,C.2.1,x.1.1,(x.1.1.length:Int),0,()),(x.2.1,x.2.2.1,())) λD=>letI E:=D.1.2.2;bif (!E.2.1)then ay ((E.1,()),())else xG ((D.1.1,(),(),E.2.2.2.1,(W6 (E.2.2.2.2.1+1)),()),(D.2.1,D.2.2.1,()))else aV ((),())
def aw7:KY 50 (aZ f296):=⟨0,lB 0 ⟨[(2,.lf (.aD .Addr 0)),(3,.aG 3 0),(15,.lf (.own 1000000000115000)),(16,tI),(17,tI)],Xx,[]⟩ [(1,IE),(2,fG)] CG,lq [] [aw6]⟩
def Lr(C:cK)(E:Int)(I:aa aK):ah (Int):=bif (E != 1)then some (-1)else (Ag C).bind λD=>bQ CG ((I,(),(),(D.length:Int),0,()),((C.aC,C.bg,()),D,())) (λJ=>some J.1.1) λL=>some (-1)
def aw8:=cg aer dN (fz Lr) 50 [Qy] [aw7] func296
def aw9:bJ:=⟨[(1,.lf (.aD .int 0)),(2,.lf (.aD .Addr 0)),(4,.aG 4 0),(7,.aG 7 0),(8,.aG 8 0),(9,.lf (.own 16)),(20,tI),(21,tI)],aed,[]⟩
def axa:aa (Nat×bJ):=[(2,⟨[(1,.lf (.aD .int 0)),(2,.lf (.aD .Addr 0)),(4,.aG 4 0),(7,.aG 7 0),(8,.aG 8 0),(9,.lf (.own 16))],aed,[]⟩)]
abbrev aiw:=(((aa Int)×(aa aK)×af×af×af×af×Int×Int×af)×(av×(Int×Int×Int×Int×af)×(Int×Int×Int×Int×af)×(aa Bool)×af))
def Ls(x:aiw):ah (aiw⊕((((aa Int)×(aa aK)×af×af×af×af×af)×(av×(Int×Int×Int×Int×af)×(Int×Int×Int×Int×af)×(aa Bool)×af))⊕Empty)):=letI C:=x.2.2.2;letI D:=x.1.2.2.2.2.2.2;bif D.2.1<D.1 then (CD x.1.2.1 D.2.1).bind λE=>bif bC (C.2.1.length+([(!E)]:aa Bool).length)then xG ((x.1.1,x.1.2.1,(),(),(),(),D.1,(W6 (D.2.1+1)),()),(x.2.1,x.2.2.1,C.1,(C.2.1++([(!E)]:aa Bool)),()))else none else ay ((x.1.1,x.1.2.1,(),(),(),(),()),(x.2.1,x.2.2.1,C.1,C.2.1,()))
def axb:KY 92 (aZ f215):=⟨0,lB 0 aw9 axa Ls,lp [YN]⟩
def Lt(O:av)(x1:aa Int)(x2:aa aK)(I:aH):ah (aH):=bu Ls ((x1,x2,(),(),(),(),(O.bq.aC.length:Int),0,()),(O,(I.kind,I.ax,I.row,I.bT,()),(0,0,0,0,()),([]:aa Bool),())) λD=>letI E:=D.2.2.1;letI C:=D.2.1;(let Q:ah (aH):=(let T:ah (aH):=(let U:Int -> Int -> Int -> Int -> ah (aH):=λY Ja j17 Cm=>letI Z:=(⟨Y,Ja,j17,Cm⟩:aH);(let Ld:Bool -> ah (aH):=λKf=>bif Kf then some Z else some (⟨0,0,0,0⟩:aH);bif (Y != 0)then (iT C Z).bind λB9=>(Ld B9)else (Ld false));letI u0:=U E.1 E.2.1 E.2.2.1 E.2.2.2.1;bif (E.1==8)then (Ag C.bq).bind λje=>bif (je.length:Int) > 0 then xL je (0:Int) λCf=>(U 4 Cf 0 0)else u0 else u0);(Lr C.bq C.box.bV.eS D.1.2.1).bind λL=>bif (L != (-1))then (iT C (⟨4,L,0,0⟩:aH)).bind λxe=>bif xe then some (⟨4,L,0,0⟩:aH)else T else T);(Lq C.aQ D.2.2.2.2.1).bind λJ=>(let k8:Bool -> ah (aH):=λj5=>bif j5 then (An C J (⟨5,J,0,0⟩:aH)).bind λy6=>(iT C y6).bind λy7=>bif y7 then some y6 else Q else Q;bif (J != (-1))then (vp D.1.1 J).bind λy4=>(k8 (!y4))else (k8 false)))
def axc:=cg [(true,.cO),(false,(.sl .int)),(false,(.sl .Addr)),(true,.Command)] IF (oD Lt) 92 [Fq,Qy,YJ,YK,aw3,aw8] [axb] func215
def axd:bJ:=⟨[(1,.aG 1 0),(2,.aG 2 0),(4,.lf (.own 1000000000117000)),(5,.aG 5 0),(42,.lf (.own 1000000000117000)),(43,tI),(44,tI)],Xe,[]⟩
def axe:aa (Nat×bJ):=[(1,aee),(2,adV)]
abbrev aix:=((af×af×af×af×af×Int×Int×af)×(av×(Int×Int×Int×Int×af)×(aa Int)×(Int×Int×Int×Int×af)×af))
def CH(x:aix):ah (aix⊕(((af×Int×af)×((Int×Int×Int×Int×af)×af))⊕(((af×af×af×af×af)×(av×(Int×Int×Int×Int×af)×(aa Int)×(Int×Int×Int×Int×af)×af))⊕Empty))):=letI E:=(x.2.1,x.2.2.1,x.2.2.2.1,x.2.2.2.2.1,());letI C:=x.1.2.2.2.2.2;bif C.2.1<C.1 then xL x.2.2.2.1 C.2.1 λI=>(An x.2.1 I (⟨5,I,0,0⟩:aH)).bind λD=>(iT x.2.1 D).bind λJ=>bif J then ay (((),(-1),()),((D.kind,D.ax,D.row,D.bT,()),()))else xG (((),(),(),(),(),C.1,(W6 (C.2.1+1)),()),E)else aV (((),(),(),(),()),E)
def axf:KY 111 (aZ f133):=⟨0,lB 0 axd axe CH,lp [Fq,YJ]⟩
def axg:bJ:=⟨[(1,.aG 1 0),(2,.aG 2 0),(4,.lf (.own 1000000000117000)),(5,.aG 5 0),(59,.lf (.aD .Addr 0)),(60,tI),(61,tI)],Xe,[]⟩
def axh:aa (Nat×bJ):=[(1,aee),(4,adV)]
abbrev aiy:=((af×af×af×af×(aa aK)×Int×Int×af)×(av×(Int×Int×Int×Int×af)×(aa Int)×(Int×Int×Int×Int×af)×af))
def CI(x:aiy):ah (aiy⊕(((af×Int×af)×((Int×Int×Int×Int×af)×af))⊕(((af×af×af×af×af)×(av×(Int×Int×Int×Int×af)×(aa Int)×(Int×Int×Int×Int×af)×af))⊕Empty))):=letI L:=(x.2.1,x.2.2.1,x.2.2.2.1,x.2.2.2.2.1,());letI D:=x.1.2.2.2.2;letI C:=D.2.2.1;letI J:=xG (((),(),(),(),D.1,D.2.1,(W6 (C+1)),()),L);bif C<D.2.1 then xI D.1 C λE=>(vp x.2.2.2.1 E.ax).bind λO=>bif O then J else if 0 <= (0:Int)/\0 <= C/\C <= (x.2.1.pending.length:Int)then (CD ((x.2.1.pending.take C.toNat).drop (0:Int).toNat) E.ax).bind λQ=>bif Q then J else (An x.2.1 E.ax (⟨1,E.ax,E.row,0⟩:aH)).bind λI=>(iT x.2.1 I).bind λT=>bif T then ay (((),(-1),()),((I.kind,I.ax,I.row,I.bT,()),()))else J else none else aV (((),(),(),(),()),L)
def axi:KY 111 (aZ f133):=⟨2,lB 2 axg axh CI,lp [Fq,YJ,YK,YN]⟩
def Rr(C:av):ah (aH×Int):=letI T:=some ((⟨0,0,0,0⟩:aH),(-1));(FB C.aQ).bind λU=>(Am C).bind λZ=>(Rh C.box.bV.dS C.bg Z).bind λL=>bif (C.bg.state != 0)then bif (L != 0)then (iT C (⟨L,0,0,0⟩:aH)).bind λy4=>bif y4 then some ((⟨L,0,0,0⟩:aH),(-1))else T else T else bQ CH (((),(),(),(),(),(U.length:Int),0,()),(C,(0,0,0,0,()),U,(L,0,0,0,()),())) (λI=>some ((⟨I.2.1.1,I.2.1.2.1,I.2.1.2.2.1,I.2.1.2.2.2.1⟩:aH),I.1.2.1)) λD=>bQ CI (((),(),(),(),D.2.1.pending,(D.2.1.pending.length:Int),0,()),(D.2.1,D.2.2.1,D.2.2.2.1,D.2.2.2.2.1,())) (λJ=>some ((⟨J.2.1.1,J.2.1.2.1,J.2.1.2.2.1,J.2.1.2.2.2.1⟩:aH),J.1.2.1)) λO=>letI E:=O.2.2.2;(Ri O.2.1).bind λY=>(Rq O.2.1 E.1 Y).bind λQ=>bif Q.2 >= 0 then some (Q.1,Q.2)else (Lt O.2.1 E.1 Y (⟨E.2.1.1,E.2.1.2.1,E.2.1.2.2.1,E.2.1.2.2.2.1⟩:aH)).bind λlG=>some (lG,(-1))
def axj:=cg w5 [(true,.Command,0),(false,.int,0)] (bR Rr) 111 [aik,Fq,YI,awp,awv,aw1,axc] [axf,axi] func133
def sK(C:av):ah (aH×Int):=letI D:=some ((⟨0,0,0,0⟩:aH),(-1));(Fg C).bind λI=>bif (!I)then D else bif (C.trace.length:Int) >= 2000 then D else (Rr C).bind λE=>some (E.1,E.2)
def axk:=bw w5 [(true,.Command,0),(false,.int,0)] (bR sK) 18 [Yl,axj] func59
def CJ(D:av):ah (av):=letI L:=vm D.config.az;(Fo D).bind λC=>letI u6:=Lk C.box ((C.queue.length:Int)==0);letI E:=W6 (C.now+1);(Fg D).bind λy2=>bif (!y2)then some C else bif (D.now==1000000)then some C else bif (C.bq.bg != 2)then (Rg C.aQ D.config.interval).bind λy3=>(Lh D.config.az C.array 1).bind λy4=>(Fz C.queue true).bind λy5=>(Fy C.drain y5).bind λy6=>(Am {C with now:=E,array:=y4,aQ:=y3,drain:=y6}).bind λy7=>(FA C.bg y7).bind λy8=>u6.bind λI=>bif I.2 then (Ae I.1.bV.weights).bind λxe=>L.bind λje=>(xy C.cM je).bind λO=>letI Q:={C with box:=I.1,now:=E,array:=y4,aQ:=y3,shares:=xe.1,drain:=⟨false,I.1.bV.low,I.1.bV.high⟩,bg:=y8,cM:=O.1};bif O.2 >= 0 then (xw Q O.2).bind λoF=>(xu oF.2.1 O.2 oF.1.2).bind λlE=>(sK lE.2.1).bind λnT=>bif (nT.1.kind != 0)then (qA lE.2.1 nT.1 nT.2).bind λlF=>some lF.1 else some lE.2.1 else (sK Q).bind λkF=>bif (kF.1.kind != 0)then (qA Q kF.1 kF.2).bind λB8=>some B8.1 else some Q else L.bind λB9=>(xy C.cM B9).bind λT=>letI U:={C with box:=I.1,now:=E,array:=y4,aQ:=y3,drain:=y6,bg:=y8,cM:=T.1};bif T.2 >= 0 then (xw U T.2).bind λy21=>(xu y21.2.1 T.2 y21.1.2).bind λlG=>(sK lG.2.1).bind λtY=>bif (tY.1.kind != 0)then (qA lG.2.1 tY.1 tY.2).bind λCp=>some Cp.1 else some lG.2.1 else (sK U).bind λYQ=>bif (YQ.1.kind != 0)then (qA U YQ.1 YQ.2).bind λP6=>some P6.1 else some U else (Fz C.queue true).bind λEX=>(Fy C.drain EX).bind λE1=>(Am {C with now:=E,drain:=E1}).bind λJ4=>(FA C.bg J4).bind λQf=>u6.bind λJ=>bif J.2 then (Ae J.1.bV.weights).bind λy32=>L.bind λy33=>(xy C.cM y33).bind λY=>letI Z:={C with box:=J.1,now:=E,shares:=y32.1,drain:=⟨false,J.1.bV.low,J.1.bV.high⟩,bg:=Qf,cM:=Y.1};bif Y.2 >= 0 then (xw Z Y.2).bind λy35=>(xu y35.2.1 Y.2 y35.1.2).bind λJ6=>(sK J6.2.1).bind λJq=>bif (Jq.1.kind != 0)then (qA J6.2.1 Jq.1 Jq.2).bind λy38=>some y38.1 else some J6.2.1 else (sK Z).bind λYR=>bif (YR.1.kind != 0)then (qA Z YR.1 YR.2).bind λy40=>some y40.1 else some Z else L.bind λy41=>(xy C.cM y41).bind λRs=>letI u2:={C with box:=J.1,now:=E,drain:=E1,bg:=Qf,cM:=Rs.1};bif Rs.2 >= 0 then (xw u2 Rs.2).bind λy43=>(xu y43.2.1 Rs.2 y43.1.2).bind λYS=>(sK YS.2.1).bind λLo=>bif (Lo.1.kind != 0)then (qA YS.2.1 Lo.1 Lo.2).bind λy46=>some y46.1 else some YS.2.1 else (sK u2).bind λYT=>bif (YT.1.kind != 0)then (qA u2 YT.1 YT.2).bind λy48=>some y48.1 else some u2
def aiz:=bw w5 [(true,.cO,4)] (bR CJ) 126 [Yl,av9,Yt,Qs,awd,awh,awi,awk,awl,aik,awn,agL,awo,aib,ah6,axk] func14
abbrev aiA:=(((aa Int)×(aa Int)×Int×af)×(af))
def FK(x:aiA):ah (aiA⊕(((Bool×af)×(af))⊕(((af)×(af))⊕Empty))):=letI C:=x.1.2.2.1;bif C<(x.1.1.length:Int)then xI x.1.1 C λD=>xI x.1.2.1 C λE=>bif (D != E)then ay ((false,()),())else xG ((x.1.1,x.1.2.1,(W6 (C+1)),()),())else aV ((),())
def axl:KY 26 (aZ f76):=⟨0,lB 0 ⟨[(0,.lf (.aD .int 0)),(1,.lf (.aD .int 0)),(5,tI)],[],[]⟩ [(1,ia),(2,fG)] FK,lp []⟩
def qB(C D:aa Int):ah (Bool):=bif ((C.length:Int) != (D.length:Int))then some false else bQ FK ((C,D,0,()),()) (λE=>some E.1.1) λI=>some true
def Lu:=cg [(false,(.sl .int)),(false,(.sl .int))] cm (bS qB) 26 [] [axl] func76
def Lv(C D:dJ):ah (Bool):=bif (C.eS==D.eS)then bif (C.cap==D.cap)then bif (C.eZ==D.eZ)then bif (C.low==D.low)then bif (C.high==D.high)then bif ((C.dS.down==D.dS.down)&&((C.dS.sleep==D.dS.sleep)&&true))then (qB C.weights D.weights).bind λE=>some E else some false else some false else some false else some false else some false else some false
def axm:=bw [(true,.lO),(true,.lO)] cm (bS Lv) 52 [Lu] func74
abbrev aiB:=(((aa eP)×(aa eP)×Int×af)×(af))
def FL(x:aiB):ah (aiB⊕(((Bool×af)×(af))⊕(((af)×(af))⊕Empty))):=letI C:=x.1.2.2.1;bif C<(x.1.1.length:Int)then xI x.1.1 C λD=>xI x.1.2.1 C λE=>bif (!((D.open_==E.open_)&&((D.row==E.row)&&true)))then ay ((false,()),())else xG ((x.1.1,x.1.2.1,(W6 (C+1)),()),())else aV ((),())
def axn:KY 26 (aZ f181):=⟨0,lB 0 ⟨[(0,.lf (.aD .kr 0)),(1,.lf (.aD .kr 0)),(5,tI)],[],[]⟩ [(1,ia),(2,fG)] FL,lp []⟩
def Rt(C D:aa eP):ah (Bool):=bif ((C.length:Int) != (D.length:Int))then some false else bQ FL ((C,D,0,()),()) (λE=>some E.1.1) λI=>some true
def axo:=cg [(false,(.sl .kr)),(false,(.sl .kr))] cm (bS Rt) 26 [] [axn] func181
def Ru(C D:cK):ah (Bool):=bif (C.bg==D.bg)then (Rt C.aC D.aC).bind λE=>some E else some false
def axp:=bw [(true,.gV),(true,.gV)] cm (bS Ru) 17 [axo] func75
def Rw(C D:bY):ah (Bool):=bif (C.ir==D.ir)then (qB C.symbols D.symbols).bind λE=>some E else some false
def axq:=bw [(true,.Cell),(true,.Cell)] cm (bS Rw) 17 [Lu] func182
abbrev aiC:=((af×af×Int×af)×(((aa bY)×(aa Int)×(aa Int)×af)×((aa bY)×(aa Int)×(aa Int)×af)×af))
def Lw(x:aiC):ah (aiC⊕(((Bool×af)×(af))⊕(((af)×(af))⊕Empty))):=letI C:=x.1.2.2.1;bif C<(x.2.1.1.length:Int)then xI x.2.1.1 C λD=>xI x.2.2.1.1 C λE=>(Rw D E).bind λI=>bif (!I)then ay ((false,()),())else xG (((),(),(W6 (C+1)),()),(x.2.1,x.2.2.1,()))else aV ((),())
def axr:KY 48 (aZ f77):=⟨0,lB 0 ⟨[(2,.aG 2 0),(3,.aG 3 0),(5,tI)],[(2,.aB Er),(3,.aB Er)],[]⟩ [(1,ia),(2,fG)] Lw,lp [axq]⟩
def Rx(C D:dm):ah (Bool):=bif ((C.cells.length:Int) != (D.cells.length:Int))then some false else (qB C.bz D.bz).bind λE=>bif (!E)then some false else (qB C.br D.br).bind λI=>bif (!I)then some false else bQ Lw (((),(),0,()),((C.cells,C.bz,C.br,()),(D.cells,D.bz,D.br,()),())) (λJ=>some J.1.1) λL=>some true
def axt:=cg [(true,.Array),(true,.Array)] cm (bS Rx) 48 [Lu] [axr] func77
abbrev aiD:=(((aa cr)×(aa cr)×Int×af)×(af))
def Lx(x:aiD):ah (aiD⊕(((Bool×af)×(af))⊕(((af)×(af))⊕Empty))):=letI D:=ay ((false,()),());letI C:=x.1.2.2.1;bif C<(x.1.1.length:Int)then xI x.1.1 C λE=>xI x.1.2.1 C λI=>bif (E.dc != I.dc)then D else xI x.1.1 C λJ=>xI x.1.2.1 C λL=>(qB J.rows L.rows).bind λO=>bif (!O)then D else xI x.1.1 C λQ=>xI x.1.2.1 C λT=>(qB Q.counts T.counts).bind λU=>bif (!U)then D else xG ((x.1.1,x.1.2.1,(W6 (C+1)),()),())else aV ((),())
def axu:KY 56 (aZ f78):=⟨0,lB 0 ⟨[(0,.lf (.aD .gD 0)),(1,.lf (.aD .gD 0)),(5,tI)],[],[]⟩ [(1,ia),(2,fG)] Lx,lp [Lu]⟩
def Ry(C D:aa cr):ah (Bool):=bif ((C.length:Int) != (D.length:Int))then some false else bQ Lx ((C,D,0,()),()) (λE=>some E.1.1) λI=>some true
def axv:=cg [(false,(.sl .gD)),(false,(.sl .gD))] cm (bS Ry) 56 [] [axu] func78
abbrev aiE:=(((aa aK)×(aa aK)×Int×af)×(af))
def Ly(x:aiE):ah (aiE⊕(((Bool×af)×(af))⊕(((af)×(af))⊕Empty))):=letI C:=x.1.2.2.1;bif C<(x.1.1.length:Int)then xI x.1.1 C λD=>xI x.1.2.1 C λE=>bif (!((D.ax==E.ax)&&((D.row==E.row)&&((D.bT==E.bT)&&true))))then ay ((false,()),())else xG ((x.1.1,x.1.2.1,(W6 (C+1)),()),())else aV ((),())
def axw:KY 26 (aZ f79):=⟨0,lB 0 ⟨[(0,.lf (.aD .Addr 0)),(1,.lf (.aD .Addr 0)),(5,tI)],[],[]⟩ [(1,ia),(2,fG)] Ly,lp []⟩
def Rz(C D:aa aK):ah (Bool):=bif ((C.length:Int) != (D.length:Int))then some false else bQ Ly ((C,D,0,()),()) (λE=>some E.1.1) λI=>some true
def axx:=cg [(false,(.sl .Addr)),(false,(.sl .Addr))] cm (bS Rz) 26 [] [axw] func79
abbrev aiF:=(((aa aX)×(aa aX)×Int×af)×(af))
def Lz(x:aiF):ah (aiF⊕(((Bool×af)×(af))⊕(((af)×(af))⊕Empty))):=letI E:=x.1.2.2.1;bif E<(x.1.1.length:Int)then xI x.1.1 E λC=>xI x.1.2.1 E λD=>bif (!((C.id==D.id)&&((C.dI==D.dI)&&((C.line==D.line)&&((C.write==D.write)&&((C.data==D.data)&&((C.at_==D.at_)&&true)))))))then ay ((false,()),())else xG ((x.1.1,x.1.2.1,(W6 (E+1)),()),())else aV ((),())
def axy:KY 26 (aZ f80):=⟨0,lB 0 ⟨[(0,.lf (.aD .di 0)),(1,.lf (.aD .di 0)),(5,tI)],[],[]⟩ [(1,ia),(2,fG)] Lz,lp []⟩
def RB(C D:aa aX):ah (Bool):=bif ((C.length:Int) != (D.length:Int))then some false else bQ Lz ((C,D,0,()),()) (λE=>some E.1.1) λI=>some true
def axz:=cg [(false,(.sl .di)),(false,(.sl .di))] cm (bS RB) 26 [] [axy] func80
abbrev aiG:=(((aa cw)×(aa cw)×Int×af)×(af))
def LA(x:aiG):ah (aiG⊕(((Bool×af)×(af))⊕(((af)×(af))⊕Empty))):=letI C:=x.1.2.2.1;bif C<(x.1.1.length:Int)then xI x.1.1 C λD=>xI x.1.2.1 C λE=>bif (!((D.weight==E.weight)&&((D.fy==E.fy)&&true)))then ay ((false,()),())else xG ((x.1.1,x.1.2.1,(W6 (C+1)),()),())else aV ((),())
def axA:KY 26 (aZ f81):=⟨0,lB 0 ⟨[(0,.lf (.aD .fF 0)),(1,.lf (.aD .fF 0)),(5,tI)],[],[]⟩ [(1,ia),(2,fG)] LA,lp []⟩
def RC(C D:aa cw):ah (Bool):=bif ((C.length:Int) != (D.length:Int))then some false else bQ LA ((C,D,0,()),()) (λE=>some E.1.1) λI=>some true
def axB:=cg [(false,(.sl .fF)),(false,(.sl .fF))] cm (bS RC) 26 [] [axA] func81
abbrev aiH:=(((aa cv)×(aa cv)×Int×af)×(af))
def LB(x:aiH):ah (aiH⊕(((Bool×af)×(af))⊕(((af)×(af))⊕Empty))):=letI C:=x.1.2.2.1;bif C<(x.1.1.length:Int)then xI x.1.1 C λD=>xI x.1.2.1 C λE=>bif (!((D.line==E.line)&&((D.code==E.code)&&((D.times==E.times)&&true))))then ay ((false,()),())else xG ((x.1.1,x.1.2.1,(W6 (C+1)),()),())else aV ((),())
def axC:KY 26 (aZ f82):=⟨0,lB 0 ⟨[(0,.lf (.aD .fN 0)),(1,.lf (.aD .fN 0)),(5,tI)],[],[]⟩ [(1,ia),(2,fG)] LB,lp []⟩
def RD(C D:aa cv):ah (Bool):=bif ((C.length:Int) != (D.length:Int))then some false else bQ LB ((C,D,0,()),()) (λE=>some E.1.1) λI=>some true
def axD:=cg [(false,(.sl .fN)),(false,(.sl .fN))] cm (bS RD) 26 [] [axC] func82
end Go.Proofs.YtglnbhiaknohlaaGreat
