/-
  Functions of the program as plain functions of contents, and that the code computes them. Nothing here is a claim.
-/
import Derived.Test.YtnilicojgkhpnaaGreatVZ
import Derived.Test.YtnilicojgkhpnaaGreatRows
import Derived.Test.YtnilicojgkhpnaaGreatG1
import Derived.Test.YtnilicojgkhpnaaGreatG2
import Derived.Test.YtnilicojgkhpnaaGreatG3
import Derived.Test.YtnilicojgkhpnaaGreatG4
namespace Go.Proofs.YtnilicojgkhpnaaGreat
set_option linter.defProp false
open Go.RowKit Go.Proofs.Tryz
set_option linter.unusedVariables false
set_option maxRecDepth 100000
def yQ(C:av)(L:Int):ah (aJ):=letI E:=W6 (C.config.az.rows-C.config.bF);(R5 (⟨C.config.az.cg,C.config.az.aC,E,C.config.az.aO⟩:aL) C.config.mapping L).bind λD=>xI C.spare.map (W6 ((W6 (D.1.ay*E))+D.1.row)) λO=>some (⟨D.1.ay,O,D.1.bR⟩:aJ)
def R6:jl:=gW [(false,.mD),(false,.int)] [(true,.Addr,0)] (λx=>yQ x.1 x.2.1)
def ZC:enters Tryz.prog 316/\iR Tryz.prog 316 R6:=kp 50 [awg] func316
abbrev aii:=((av×af×Int×af)×((aa aJ)×af))
def LS(x:aii):ah (aii⊕(((af×af)×((aa aJ)×af))⊕Empty)):=bif x.1.2.2.1<(x.1.1.queue.length:Int)then xI x.1.1.queue x.1.2.2.1 λD=>(yQ x.1.1 D.line).bind λC=>bif bI (x.2.1.length+([C]:aa aJ).length)then xG ((x.1.1,(),(W6 (x.1.2.2.1+1)),()),((x.2.1++([C]:aa aJ)),()))else none else ax (((),()),(x.2.1,()))
def awh:KY 29 (aW f396):=⟨0,lB 0 ⟨[(0,.fp .cP 0),(3,.lf (.own 5)),(4,tI)],[(5,.sl .Addr 2)],[]⟩ [(2,⟨[(3,.lf (.own 5))],[(5,.sl .Addr 2)],[]⟩)] LS,lp [⟨316,.p R6,ZC⟩]⟩
def LU(C:av):ah ((aa aJ)):=bh LS ((C,(),0,()),(([]:aa aJ),())) λD=>some D.2.1
def aij:=bS [(false,.mD)] [(false,(.sl .Addr),2)] (bO LU) 29 [] [awh] func396
abbrev aik:=(((aa aN)×Int×Int×af)×(af))
def GF(x:aik):ah (aik⊕(((Bool×af)×(af))⊕(((af)×(af))⊕Empty))):=letI C:=x.1.2;bif C.2.1<C.1 then bif C.1<(x.1.1.length:Int)then xI x.1.1 C.2.1 λD=>xI x.1.1 C.1 λE=>bif (D.line==E.line)then ax ((true,()),())else xG ((x.1.1,C.1,(W6 (C.2.1+1)),()),())else aU ((),())else aU ((),())
def awi:KY 28 (aW f447):=⟨0,lB 0 YP [(1,iz),(2,fS)] GF,lp []⟩
def LV(C:aa aN)(D:Int):ah (Bool):=bE GF ((C,D,0,()),()) (λE=>some E.1.1) λL=>some false
def ail:=bS Kc bP (bx LV) 28 [] [awi] func447
def R7(C:gV)(D:Int)(E:Bool):ah (Bool):=(Gk C).bind λL=>bif (!L)then some false else bif E then bif C.on then some true else some (D<1)else some (!C.on)
def awj:=aZ [(true,.n6),(false,.int),(false,.bool)] bP (fR R7) 20 [Zo] func448
abbrev aim:=((av×Int×Int×Int×af)×(af))
def LW(x:aim):ah (aim⊕(((av×Int×Int×af)×(af))⊕Empty)):=letI D:=x.1.1;letI C:=x.1.2.2;letI E:=W6 (C.2.1+1);bif C.2.1<(D.queue.length:Int)then (LV D.queue C.2.1).bind λL=>bif L then xG ((D,x.1.2.1,C.1,E,()),())else xI D.queue C.2.1 λO=>bif O.write then xG ((D,x.1.2.1,(W6 (C.1+1)),E,()),())else xG ((D,(W6 (x.1.2.1+1)),C.1,E,()),())else ax ((D,x.1.2.1,C.1,()),())
def awk:KY 82 (aW f397):=⟨0,lB 0 ⟨[(0,.fp .cP 0),(3,tI),(4,tI),(5,tI)],[],[]⟩ [(2,⟨[(0,.fp .cP 0),(3,tI),(4,tI)],[],[]⟩)] LW,lp [ail]⟩
abbrev ain:=((av×Int×Int×af×Int×af)×((aa Bool)×af))
def LX(x:ain):ah (ain⊕(((af×af)×((aa Bool)×af))⊕Empty)):=letI C:=x.2.1;letI L:=([(x.1.2.2.1==0)]:aa Bool);letI D:=x.1.2.2.2.2.1;letI E:=(x.1.1,x.1.2.1,x.1.2.2.1,(),(W6 (D+1)),());letI O:=bif bI (C.length+([false]:aa Bool).length)then xG (E,((C++([false]:aa Bool)),()))else none;bif D<(x.1.1.queue.length:Int)then xI x.1.1.queue D λT=>(LV x.1.1.queue D).bind λU=>bif (!U)then (R7 x.1.1.drain x.1.2.1 T.write).bind λY=>bif Y then bif bI (C.length+([true]:aa Bool).length)then xG (E,((C++([true]:aa Bool)),()))else none else bif (!T.write)then bif bI (C.length+L.length)then xG (E,((C++L),()))else none else O else O else ax (((),()),(C,()))
def awl:KY 82 (aW f397):=⟨2,lB 2 ⟨[(0,.fp .cP 0),(3,tI),(4,tI),(6,.lf (.own 36)),(7,tI)],[(36,.sl .bool 2)],[]⟩ [(4,⟨[(6,.lf (.own 36))],[(36,.sl .bool 2)],[]⟩)] LX,lp [ail,awj]⟩
def R8(D:av):ah ((aa Bool)):=bh LW ((D,0,0,0,()),()) λC=>bh LX ((C.1.1,C.1.2.1,C.1.2.2.1,(),0,()),(([]:aa Bool),())) λE=>some E.2.1
def awm:=bS [(false,.mD)] [(false,(.sl .bool),2)] (bO R8) 82 [] [awk,awl] func397
def R9(C:cH)(D:Int):ah (Int):=(cT D 0 (W6 ((C.aC.length:Int)-1))).bind λE=>bif (!E)then some (-1)else xI C.aC D λL=>bif (!L.open_)then some (-1)else xI C.aC D λO=>some O.row
def awn:=aZ Y5 cE (bx R9) 27 [fG] func449
def LY(D:cH)(C:aJ):ah (Bool):=(R9 D C.ay).bind λE=>bif (E==C.row)then (R9 D C.ay).bind λL=>some (L != (-1))else some false
def aio:=aZ [(true,.iO),(true,.Addr)] bP (bx LY) 19 [awn] func399
abbrev aip:=((av×(aa aJ)×(aa Bool)×af×Int×af)×((Int×Int×Int×af)×af))
def GG(x:aip):ah (aip⊕(((Bool×af)×(af))⊕(((af)×(af))⊕Empty))):=letI C:=x.1.2;letI D:=C.2.2.2.1;letI E:=xG ((x.1.1,C.1,C.2.1,(),(W6 (D+1)),()),(x.2.1,()));bif D<(C.1.length:Int)then xI C.2.1 D λL=>bif L then xI C.1 D λO=>bif (O.ay==x.2.1.1)then xI C.1 D λT=>(LY x.1.1.bq T).bind λU=>bif U then ax ((false,()),())else E else E else E else aU ((),())
def awo:KY 120 (aW f398):=⟨0,lB 0 ⟨[(0,.fp .cP 0),(1,.lf (.aF .Addr 0)),(2,.lf (.aF .bool 0)),(9,.aG 9 0),(12,tI)],[(9,.aB Kh)],[]⟩ [(1,⟨[(8,tB)],[],[]⟩),(2,fS)] GG,lp [aio]⟩
def Sa(C:av)(O:aa aJ)(T:aa Bool)(E:Int):ah (Bool):=xI O E λD=>(let U:Bool -> ah (Bool):=λj6=>bif j6 then some false else xI C.queue E λe9=>(A5 C.bq D e9.write).bind λL=>(DM C L).bind λfW=>bif (!fW)then some false else (let Y:Bool -> ah (Bool):=λLZ=>(let Z:Bool -> ah (Bool):=λDL=>bif DL then some false else (let uT:Bool -> ah (Bool):=λL0=>bif L0 then some true else bE GG ((C,O,T,(),0,()),((D.ay,D.row,D.bR,()),())) (λZD=>some ZD.1.1) (λz28=>some true);bif (L.kind != 4)then (uT true)else xI C.queue E λDP=>(uT (decide ((W6 (C.now-DP.at_)) >= C.box.bK.cap))));bif LZ then (GD C.pending D.ay).bind λje=>(Z je)else (Z false));bif (L.kind==1)then (Y true)else (Y (L.kind==4)));xI T E λe4=>bif (!e4)then (U true)else (DO C D.ay).bind λy5=>(U y5))
def awp:=bS [(false,.mD),(false,(.sl .Addr)),(false,(.sl .bool)),(false,.int)] bP (nE Sa) 120 [R2,ZB,R3,ZA] [awo] func398
abbrev aiq:=(((aa bZ)×(aa Bool)×Int×Int×af)×(af))
def air(x:aiq):ah (aiq⊕(((Int×af)×(af))⊕Empty)):=letI D:=x.1.2.2.1;letI C:=x.1.2.2.2.1;letI E:=xG ((x.1.1,x.1.2.1,C,(W6 (C+1)),()),());letI L:=xG ((x.1.1,x.1.2.1,D,(W6 (C+1)),()),());bif C<(x.1.1.length:Int)then bif C<(x.1.2.1.length:Int)then xI x.1.2.1 C λO=>bif O then bif D<0 then E else xI x.1.1 C λT=>xI x.1.1 D λU=>bif T.fK > U.fK then E else L else L else ax ((D,()),())else ax ((D,()),())
def awq:KY 42 (aW f450):=⟨0,lB 0 af0 [(2,wI)] air,lp []⟩
def Sb(C:aa bZ)(D:aa Bool):ah (Int):=bh air ((C,D,(-1),0,()),()) λE=>some E.1.1
def awr:=bS QT cE (bx Sb) 42 [] [awq] func450
abbrev ais:=(((aa Bool)×af×Int×af)×((aa bZ)×af))
def GH(x:ais):ah (ais⊕((((aa Bool)×af×af)×((aa bZ)×af))⊕Empty)):=letI C:=x.1.2.2.1;bif C<(x.2.1.length:Int)then xL x.2.1 C λD=>xL x.2.1 C λE=>xG ((x.1.1,(),(W6 (C+1)),()),((x.2.1.set C.toNat (⟨E.weight,D.weight⟩:bZ)),()))else ax ((x.1.1,(),()),(x.2.1,()))
def aws:KY 58 (aW f400):=⟨0,lB 0 ⟨[(1,.lf (.aF .bool 0)),(6,.lf (.own 9)),(8,tI)],[(9,.sl .fm 2)],[]⟩ [(2,af5)] GH,lp []⟩
def L1(O:aa bZ)(T:aa Bool):ah ((aa bZ)×Int):=letI C:=xA O;bif xZ O then (Lj O).bind λU=>bif (!U)then some (C,(-1))else (Sb C T).bind λD=>bif D<0 then some (C,(-1))else xC C D (if Y:D.toNat<C.length then (let Z:=C[D.toNat]'Y;bif (Z.fK==0)then bh GH ((T,(),0,()),(C,())) λE=>(Sb E.2.1 E.1.1).bind λL=>xL E.2.1 L λoy=>xL E.2.1 L λDR=>some ((E.2.1.set L.toNat (⟨DR.weight,(W6 (oy.fK-1))⟩:bZ)),L)else xC C D (if yR:D.toNat<C.length then (let qY:=C[D.toNat]'yR;xC C D (if Sc:D.toNat<C.length then (let sv:=C[D.toNat]'Sc;some ((C.set D.toNat (⟨sv.weight,(W6 (qY.fK-1))⟩:bZ)),D))else none))else none))else none)else none
def ait:=bS QT [(false,(.sl .fm),2),(false,.int,0)] (bx L1) 58 [ahw,awr] [aws] func400
abbrev aiu:=(((aa aN)×(aa Bool)×(aa Bool)×Int×Int×Int×Int×Int×af)×(af))
def L2(x:aiu):ah (aiu⊕(((Int×af)×(af))⊕Empty)):=letI L:=x.1.1;letI O:=x.1.2.1;letI E:=x.1.2.2;letI u8:=E.2.1;letI D:=E.2.2;letI Z:=ax ((D.2.1,()),());letI T:=D.2.2.1;letI C:=D.2.2.2.1;letI U:=W6 (C+1);letI Y:=xG ((L,O,E.1,u8,D.1,D.2.1,T,U,()),());letI u4:=bif 3 > T then xG ((L,O,E.1,u8,D.1,C,3,U,()),())else Y;letI u1:=xI L C λgR=>bif gR.at_ <= (W6 (D.1-u8))then u4 else bif 1 > T then xG ((L,O,E.1,u8,D.1,C,1,U,()),())else Y;bif C<(L.length:Int)then bif C<(O.length:Int)then xI O C λe4=>bif (!e4)then Y else bif C<(E.1.length:Int)then xI E.1 C λe6=>bif e6 then xI L C λe8=>bif e8.at_ <= (W6 (D.1-u8))then u4 else bif 2 > T then xG ((L,O,E.1,u8,D.1,C,2,U,()),())else Y else u1 else u1 else Z else Z
def awt:KY 65 (aW f401):=⟨0,lB 0 ⟨[(0,.lf (.aF .dg 0)),(1,.lf (.aF .bool 0)),(2,.lf (.aF .bool 0)),(3,tI),(4,tI),(11,tI),(12,tI),(13,tI)],[],[]⟩ [(2,⟨[(11,tI)],[],[]⟩)] L2,lp []⟩
def Sd(E:aa aN)(L O:aa Bool)(C D:Int):ah (Int):=(cT C 0 1000000).bind λT=>bif (!T)then some (-1)else (cT D 0 1000000).bind λU=>bif (!U)then some (-1)else bh L2 ((E,L,O,C,D,(-1),0,0,()),()) λY=>some Y.1.1
def awu:=bS af2 cE (Dl Sd) 65 [fG] [awt] func401
def awv:bG:=⟨[(0,.fp .cP 0),(2,.aG 2 0),(4,.lf (.own 1000000000116000)),(5,.lf (.own 1000000000118000)),(6,.lf (.own 19)),(7,.lf (.own 20)),(8,.lf (.own 21)),(9,tI)],[(2,.aB fj),(1000000000116000,.sl .Addr 2),(1000000000118000,.sl .bool 2),(19,.sl .bool 2),(20,.sl .bool 2),(21,.sl .bool 2)],[]⟩
def aww:aa (Nat×bG):=[(2,⟨[(0,.fp .cP 0),(2,.aG 2 0),(4,.lf (.own 1000000000116000)),(6,.lf (.own 19)),(7,.lf (.own 20)),(8,.lf (.own 21))],[(2,.aB fj),(1000000000116000,.sl .Addr 2),(19,.sl .bool 2),(20,.sl .bool 2),(21,.sl .bool 2)],[]⟩)]
abbrev aiv:=((av×af×af×af×af×af×af×Int×af)×((Int×Int×Int×Int×af)×(aa aJ)×(aa Bool)×(aa Bool)×(aa Bool)×(aa Bool)×af))
def L3(x:aiv):ah (aiv⊕(((av×af×af×af×af×af×af)×((Int×Int×Int×Int×af)×(aa aJ)×(aa Bool)×(aa Bool)×(aa Bool)×af))⊕Empty)):=letI C:=x.2.2;letI D:=C.2.2;letI L:=D.2.2.1;letI E:=x.1.2.2.2.2.2.2.2.1;letI U:=(x.1.1,(),(),(),(),(),(),(W6 (E+1)),());bif E<(C.1.length:Int)then (Sa x.1.1 C.1 C.2.1 E).bind λY=>letI O:=([Y]:aa Bool);bif bI (D.1.length+O.length)then xL C.1 E λe6=>(LY x.1.1.bq e6).bind λy7=>letI T:=([y7]:aa Bool);bif bI (D.2.1.length+T.length)then bif Y then xI x.1.1.queue E λZ=>xL L Z.c9 λmQ=>xG (U,(x.2.1,C.1,C.2.1,(D.1++O),(D.2.1++T),(L.set Z.c9.toNat true),()))else xG (U,(x.2.1,C.1,C.2.1,(D.1++O),(D.2.1++T),L,()))else none else none else ax ((x.1.1,(),(),(),(),(),()),(x.2.1,C.1,D.1,D.2.1,L,()))
def awx:KY 132 (aW f312):=⟨0,lB 0 awv aww L3,lp [awp,aio]⟩
abbrev aiw:=((av×af×af×af×af×Int×Int×af)×((Int×Int×Int×Int×af)×(aa aJ)×(aa Bool)×(aa Bool)×af))
def L4(x:aiw):ah (aiw⊕(((av×af×af×af×af×af)×((Int×Int×Int×Int×af)×(aa aJ)×(aa Bool)×(aa Bool)×af))⊕Empty)):=letI C:=x.2.2.2;letI E:=x.1.2.2.2.2.2;letI D:=E.2.1;letI L:=(x.1.1,(),(),(),(),E.1,(W6 (D+1)),());bif D<(x.2.2.1.length:Int)then xL C.1 D λO=>bif O then xI x.1.1.queue D λT=>xL C.1 D λU=>xG (L,(x.2.1,x.2.2.1,(C.1.set D.toNat (T.c9==E.1)),C.2.1,()))else xL C.1 D λY=>xG (L,(x.2.1,x.2.2.1,(C.1.set D.toNat false),C.2.1,()))else ax ((x.1.1,(),(),(),(),()),(x.2.1,x.2.2.1,C.1,C.2.1,()))
def awy:KY 132 (aW f312):=⟨2,lB 2 ⟨[(0,.fp .cP 0),(2,.aG 2 0),(4,.lf (.own 1000000000116000)),(6,.lf (.own 19)),(7,.lf (.own 20)),(12,tI),(13,tI)],af4,[]⟩ [(4,⟨[(0,.fp .cP 0),(2,.aG 2 0),(4,.lf (.own 1000000000116000)),(6,.lf (.own 19)),(7,.lf (.own 20))],af4,[]⟩)] L4,lp []⟩
def Se(O:av):ah (aH×Int):=(LU O).bind λT=>(R8 O).bind λU=>if 0 <= (4:Int)/\(4:Int) <= 4/\(4:Int)<1073741824 then bh L3 ((O,(),(),(),(),(),(),0,()),((0,0,0,0,()),T,U,([]:aa Bool),([]:aa Bool),(List.replicate (4:Int).toNat false),())) λC=>(L1 C.1.1.shares C.2.2.2.2.2.1).bind λY=>bh L4 ((C.1.1,(),(),(),(),Y.2,0,()),(C.2.1,C.2.2.1,C.2.2.2.1,C.2.2.2.2.1,())) λE=>letI D:=E.1.1;(Sd D.queue E.2.2.2.1 E.2.2.2.2.1 D.box.bK.cap D.now).bind λL=>bif L<0 then some ((⟨0,0,0,0⟩:aH),(-1))else xL E.2.2.1 L λZ=>xI D.queue L λZE=>(A5 D.bq Z ZE.write).bind λyS=>some (yS,L)else none
def awz:=bS [(false,.mD)] [(true,.Command,0),(false,.int,0)] (bO Se) 132 [ZB,aij,awm,ait,awu] [awx,awy] func312
abbrev aix:=(((aa Bool)×af×Bool×Int×Int×af)×(((aa Int)×Int×Bool×af)×af))
def L5(x:aix):ah (aix⊕(((Int×af)×(af))⊕Empty)):=letI E:=x.2.1.1;letI D:=x.1.2.2;letI C:=D.2.2.1;letI O:=xG ((x.1.1,(),D.1,C,(W6 (C+1)),()),(x.2.1,()));letI L:=xG ((x.1.1,(),D.1,D.2.1,(W6 (C+1)),()),(x.2.1,()));letI T:=bif D.2.1<0 then O else xI E C λU=>xI E D.2.1 λY=>bif U > Y then O else L;bif C<(E.length:Int)then xI E C λZ=>bif (!D.1)then xI E C λe6=>bif e6 > 0 then bif C<(x.1.1.length:Int)then xI x.1.1 C λe8=>bif e8 then T else L else L else L else bif Z >= 4 then T else L else ax ((D.2.1,()),())
def awA:KY 69 (aW f402):=⟨0,lB 0 ⟨[(1,.lf (.aF .bool 0)),(2,.aG 2 0),(5,tB),(6,tI),(7,tI)],[(2,.aB Ds)],[]⟩ [(2,Ki)] L5,lp []⟩
def Sf(C:cO)(D:aa Bool):ah (Int):=(DB C).bind λE=>bif (!E)then some (-1)else (Lx C).bind λL=>bh L5 ((D,(),(decide ((L.length:Int) > 0)),(-1),0,()),((C.aI,C.wait,C.dy,()),())) λO=>some O.1.1
def awB:=bS [(true,.jJ),(false,(.sl .bool))] cE (bx Sf) 69 [RL,ahI] [awA] func402
abbrev aiy:=(((aa aJ)×af×Int×Bool×Int×af)×(((aa dG)×Int×af)×af))
def GI(x:aiy):ah (aiy⊕((((aa aJ)×af×Int×Bool×af)×(((aa dG)×Int×af)×af))⊕Empty)):=letI C:=x.1.2.2;letI D:=C.2.2.1;letI E:=xG ((x.1.1,(),C.1,C.2.1,(W6 (D+1)),()),(x.2.1,()));bif D<(x.1.1.length:Int)then xI x.1.1 D λL=>bif (L.ay==C.1)then xI x.1.1 D λO=>xI x.2.1.1 C.1 λT=>bif (O.row==T.row)then xG ((x.1.1,(),C.1,true,(W6 (D+1)),()),(x.2.1,()))else E else E else ax ((x.1.1,(),C.1,C.2.1,()),(x.2.1,()))
def awC:KY 56 (sn (aW f403) 0):=⟨2,lB 2 ⟨[(2,.lf (.aF .Addr 0)),(3,.aG 3 0),(7,tI),(8,tB),(9,tI)],[(3,.aB Du)],[]⟩ [(4,⟨[(2,.lf (.aF .Addr 0)),(3,.aG 3 0),(7,tI),(8,tB)],[(3,.aB Du)],[]⟩)] GI,lp []⟩
abbrev aiz:=(((aa aJ)×af×Int×af)×(((aa dG)×Int×af)×af))
def DS(x:aiz):ah (aiz⊕(((Int×af)×(af))⊕(((af)×(af))⊕Empty))):=bif x.1.2.2.1<(x.2.1.1.length:Int)then xI x.2.1.1 x.1.2.2.1 λD=>bh GI ((x.1.1,(),x.1.2.2.1,(!D.open_),0,()),(x.2.1,())) λC=>bif (!C.1.2.2.2.1)then ax ((C.1.2.2.1,()),())else xG ((C.1.1,(),(W6 (C.1.2.2.1+1)),()),(C.2.1,()))else aU ((),())
def awD:KY 56 (aW f403):=⟨0,lB 0 ⟨[(2,.lf (.aF .Addr 0)),(3,.aG 3 0),(7,tI)],[(3,.aB Du)],[]⟩ [(1,Ki),(2,fS)] DS,lq [] [awC]⟩
def Sg(C:cH)(D:Int)(E:aa aJ):ah (Int):=bif (D != 1)then some (-1)else bE DS ((E,(),0,()),((C.aC,C.bk,()),())) (λL=>some L.1.1) λO=>some (-1)
def awE:=bS agt cE (fR Sg) 56 [] [awD] func403
abbrev aiA:=((av×Int×af×af×af×Int×af)×((aa aH)×(aa aJ)×(aa Bool)×af))
def L6(x:aiA):ah (aiA⊕(((av×Int×af×af×af×af)×((aa aH)×(aa aJ)×(aa Bool)×af))⊕Empty)):=letI C:=x.1.2.2.2.2.2.1;bif C<(x.1.1.bq.aC.length:Int)then (GD x.2.2.1 C).bind λD=>bif bI (x.2.2.2.1.length+([(!D)]:aa Bool).length)then xG ((x.1.1,x.1.2.1,(),(),(),(W6 (C+1)),()),(x.2.1,x.2.2.1,(x.2.2.2.1++([(!D)]:aa Bool)),()))else none else ax ((x.1.1,x.1.2.1,(),(),(),()),(x.2.1,x.2.2.1,x.2.2.2.1,()))
def awF:KY 99 (aW f313):=⟨0,lB 0 ⟨[(0,.fp .cP 0),(1,tI),(5,.lf (.own 11)),(6,.lf (.own 1000000000113000)),(7,.lf (.own 14)),(8,tI)],af8,[]⟩ [(2,⟨[(0,.fp .cP 0),(1,tI),(5,.lf (.own 11)),(6,.lf (.own 1000000000113000)),(7,.lf (.own 14))],af8,[]⟩)] L6,lp [ZA]⟩
def Sh(T:av)(x1:Int):ah ((aa aH)):=(LU T).bind λy1=>bh L6 ((T,x1,(),(),(),0,()),(([]:aa aH),y1,([]:aa Bool),())) λC=>letI D:=C.1.1;letI U:=([(⟨C.1.2.1,0,0,0⟩:aH)]:aa aH);(Sf D.aV C.2.2.2.1).bind λL=>(let Y:(aa aH) -> ah ((aa aH)):=λO=>(Sg D.bq D.box.bK.dM C.2.2.1).bind λZ=>letI u4:=([(⟨4,Z,0,0⟩:aH)]:aa aH);(let A1:(aa aH) -> ah ((aa aH)):=λE=>(LK D.bq).bind λjd=>(let L7:Bool -> ah ((aa aH)):=λDK=>bif DK then xL jd (0:Int) λoy=>letI u3:=([(⟨4,oy,0,0⟩:aH)]:aa aH);bif bI (E.length+u3.length)then some (E++u3)else none else (let uT:(aa aH) -> ah ((aa aH)):=λL0=>some L0;letI u0:=uT (E++U);bif (C.1.2.1 != 0)then bif bI (E.length+U.length)then u0 else none else (uT E));letI u6:=L7 (decide ((jd.length:Int) > 0));bif (C.1.2.1==8)then u6 else (L7 false));letI u1:=A1 (O++u4);bif Z >= 0 then bif bI (O.length+u4.length)then u1 else none else (A1 O));(let k8:Bool -> ah ((aa aH)):=λj6=>bif j6 then (GB D (⟨5,L,0,0⟩:aH)).bind λy7=>letI u5:=Y (C.2.1++([y7]:aa aH));bif bI (C.2.1.length+([y7]:aa aH).length)then u5 else none else (Y C.2.1);bif L >= 0 then (DO D L).bind λy5=>(k8 (!y5))else (k8 false)))
def awG:=bS [(false,.mD),(false,.int)] [(false,(.sl .Command),2)] (bx Sh) 99 [R3,Zz,aij,awB,awE,aia] [awF] func313
def A6(C:av):ah (aH×Int):=letI E:=some ((⟨0,0,0,0⟩:aH),(-1));bif (C.trace.length:Int) >= 2000 then E else (DC C).bind λT=>(RY C.box.bK.de C.bk T).bind λD=>bif (C.bk.state != 0)then bif (D==0)then E else (DM C (⟨D,0,0,0⟩:aH)).bind λU=>bif (!U)then E else some ((⟨D,0,0,0⟩:aH),(-1))else (R4 C).bind λY=>(LP C Y).bind λO=>bif O.2 then some (O.1,(-1))else (Se C).bind λL=>bif L.2 >= 0 then some (L.1,L.2)else (Sh C D).bind λZ=>(LP C Z).bind λy8=>some (y8.1,(-1))
def awH:KX:=⟨190,.q (gW [(false,.mD)] [(true,.Command,0),(false,.int,0)] λx=>A6 x.1),kp 77 [⟨184,.p Zt,ahJ⟩,av2,R2,awb,awf,awz,awG] func190⟩
def GJ(C:aL)(D:aJ):ah (Bool):=(o8 C).bind λE=>(cT D.ay 0 (W6 (E-1))).bind λL=>bif L then (cT D.row 0 (W6 (C.rows-1))).bind λO=>bif O then (cT D.bR 0 (W6 (C.aO-1))).bind λT=>some T else some false else some false
def ZF:=aZ QW bP (bx GJ) 27 [fG,ox] func262
def Si(C:Int):ah (Bool×Bool×Bool):=(cT C 1 5).bind λD=>bif (C==2)then some (D,(C==1),true)else some (D,(C==1),(C==3))
def awI:=aZ lO [(false,.bool,0),(false,.bool,0),(false,.bool,0)] (bO Si) 15 [fG] func451
def Sj(C:aH):ah (Bool):=letI E:=(cT C.kind 1 9).bind λT=>bif T then (cT C.ay 0 7).bind λU=>bif U then (cT C.row 0 15).bind λY=>bif Y then (cT C.bR 0 7).bind λZ=>some Z else some false else some false else some false;(Si C.kind).bind λD=>letI L:=bif (!D.2.2)then bif (C.bR != 0)then some false else E else E;letI O:=bif (!D.2.1)then bif (C.row != 0)then some false else L else L;bif (!D.1)then bif (C.ay != 0)then some false else O else O
def awJ:=aZ [(true,.Command)] bP (bO Sj) 56 [fG,awI] func405
def L8(D:aL)(C:aH):ah (Bool):=(Sj C).bind λE=>bif E then (GJ D (⟨C.ay,C.row,C.bR⟩:aJ)).bind λL=>some L else some false
def aiB:=aZ Y6 bP (bx L8) 18 [ZF,awJ] func314
def A7(C:av)(E:aH)(D:Int):ah (Bool):=letI O:=bif D >= 0 then bif (C.cr.length:Int)<400 then if U:0 <= D/\D.toNat<C.queue.length then (let Y:=C.queue[D.toNat]'U.2;if Z:0 <= D/\D.toNat<C.queue.length then (let e7:=C.queue[D.toNat]'Z.2;(yQ C Y.line).bind λy8=>(A5 C.bq y8 e7.write).bind λL=>some ((L.kind==E.kind)&&((L.ay==E.ay)&&((L.row==E.row)&&((L.bR==E.bR)&&true)))))else none)else none else some false else some false;letI T:=bif (E.kind != 2)then bif (E.kind != 3)then some true else O else O;(L8 C.config.az E).bind λy1=>bif (!y1)then some false else (DM C E).bind λy2=>bif (!y2)then some false else bif (C.trace.length:Int) >= 2000 then some false else bif (D != (-1))then (cT D 0 (W6 ((C.queue.length:Int)-1))).bind λy3=>bif (!y3)then some false else T else T
def awK:KX:=⟨191,.q (gW [(false,.mD),(true,.Command),(false,.int)] [(false,.bool,0)] λx=>A7 x.1 x.2.1 x.2.2.1),kp 89 [fG,R2,aiB,ZB,⟨316,.p R6,ZC⟩] func191⟩
def Sk(D:aL)(C:Int):ah (Bool):=(o8 D).bind λE=>some ((decide ((W6 ((C.tmod 9)+1)) <= 5))==(decide ((W6 (C.tdiv 9))<E)))
def awL:=aZ Kf bP (bx Sk) 15 [ox] func294
abbrev aiC:=((af×af×Int×af)×((Int×Int×Int×Int×af)×((aa Int)×(aa Int)×af)×af))
def L9(x:aiC):ah (aiC⊕(((Bool×af)×(af))⊕(((af×af)×(((aa Int)×(aa Int)×af)×af))⊕Empty))):=letI C:=x.2.2.1;letI D:=x.1.2.2.1;letI E:=xG (((),(),(W6 (D+1)),()),(x.2.1,C,()));bif D<(C.1.length:Int)then xI C.1 D λL=>(cT L (-1) 1000000).bind λO=>bif (!O)then ax ((false,()),())else (Sk (⟨x.2.1.1,x.2.1.2.1,x.2.1.2.2.1,x.2.1.2.2.2.1⟩:aL) D).bind λT=>bif (!T)then xI C.1 D λU=>bif (U != (-1))then ax ((false,()),())else E else E else aU (((),()),(C,()))
def awM:KY 86 (aW f167):=⟨0,lB 0 ⟨[(2,.aG 2 0),(3,.aG 3 0),(5,tI)],[(2,.aB fj),(3,.aB Dt)],[]⟩ [(1,iz),(2,agp)] L9,lp [fG,awL]⟩
abbrev aiD:=((af×Int×af)×(((aa Int)×(aa Int)×af)×af))
def Ma(x:aiD):ah (aiD⊕(((Bool×af)×(af))⊕(((af)×(af))⊕Empty))):=letI D:=x.2.1.2.1;letI C:=x.1.2.1;letI E:=xG (((),(W6 (C+1)),()),(x.2.1,()));bif C<(D.length:Int)then xI D C λL=>(cT L 0 1000000).bind λO=>bif (!O)then ax ((false,()),())else bif C > 0 then xI D (W6 (C-1)) λT=>xI D C λU=>bif T >= U then ax ((false,()),())else E else E else aU ((),())
def awN:KY 86 (aW f167):=⟨2,lB 2 ⟨[(3,.aG 3 0),(6,tI)],[(3,.aB Dt)],[]⟩ [(1,iz),(4,fS)] Ma,lp [fG]⟩
def Sl(C:aL)(D:dJ):ah (Bool):=(yM C).bind λE=>bif (!E)then some false else (o8 C).bind λL=>bif ((D.last.length:Int) != (W6 (9*(W6 (L+1)))))then some false else bif (D.aX.length:Int) > 4 then some false else bE L9 (((),(),0,()),((C.cg,C.aC,C.rows,C.aO,()),(D.last,D.aX,()),())) (λO=>some O.1.1) λT=>bE Ma (((),0,()),(T.2.1,())) (λU=>some U.1.1) λY=>some true
def awO:=bS [(true,.ga),(true,.jZ)] bP (bx Sl) 86 [ox,Gg] [awM,awN] func167
def awP:enters Tryz.prog 407/\kR Tryz.prog 407 (cj Tryz.prog f407 1 [(ox.f,ox.c)]):=sr (qV 1 [(ox.f,ox.c)] func407 ⟨ox.ok,trivial⟩)
def Sn(O:aL)(E:dJ)(C:dA):ah (dJ):=(uQ E).bind λD=>letI T:=(xA D.aX)++([C.at_]:aa Int);letI L:=(T.length:Int);(let U:Bool -> ah (dJ):=λj5=>bif j5 then some D else (let Y:Bool -> ah (dJ):=λj9=>bif j9 then some D else (o8 O).bind λfW=>(let k16:Int -> ah (dJ):=λLZ=>letI u3:=W6 ((W6 ((W6 (9*LZ))+C.cmd.kind))-1);letI Z:=D.last.set u3.toNat C.at_;xL D.last u3 λSo=>bif (C.cmd.kind==1)then bif xZ D.aX then bif bI ((xA D.aX).length+([C.at_]:aa Int).length)then bif L > 4 then if 0 <= (1:Int)/\1 <= L/\L <= L then (uQ (⟨Z,((T.take (L.toNat)).drop ((1:Int).toNat))⟩:dJ)).bind λjB=>some jB else none else (uQ (⟨Z,T⟩:dJ)).bind λov=>some ov else none else none else (uQ (⟨Z,D.aX⟩:dJ)).bind λwM=>some wM;bif C.cmd.kind <= 5 then (k16 C.cmd.ay)else (k16 fW));bif (C.cmd.kind==1)then bif (E.aX.length:Int) > 0 then xI E.aX (W6 ((E.aX.length:Int)-1)) λe8=>(Y (decide (e8 >= C.at_)))else (Y false)else (Y false));(Sl O E).bind λy2=>bif (!y2)then (U true)else (L8 O C.cmd).bind λy3=>bif (!y3)then (U true)else (cT C.at_ 0 1000000).bind λy4=>(U (!y4)))
def awQ:=aZ [(true,.ga),(true,.jZ),(true,.Event)] [(true,.jZ,2)] (fR Sn) 57 [fG,ahm,awO,aiB,⟨407,.i _,awP⟩] func317
abbrev aiE:=(((aa aJ)×af×Int×af)×((Int×Int×Int×af)×af))
def Mb(x:aiE):ah (aiE⊕(((Int×af)×(af))⊕(((af)×(af))⊕Empty))):=letI C:=x.1.2.2.1;bif C<(x.1.1.length:Int)then xI x.1.1 C λD=>bif ((D.ay==x.2.1.1)&&((D.row==x.2.1.2.1)&&((D.bR==x.2.1.2.2.1)&&true)))then ax ((C,()),())else xG ((x.1.1,(),(W6 (C+1)),()),(x.2.1,()))else aU ((),())
def awR:KY 19 (aW f298):=⟨0,lB 0 ⟨[(0,.lf (.aF .Addr 0)),(3,.aG 3 0),(5,tI)],[(3,.aB Kh)],[]⟩ [(1,lN),(2,fS)] Mb,lp []⟩
def Mc(D:aa aJ)(C:aJ):ah (Int):=bE Mb ((D,(),0,()),((C.ay,C.row,C.bR,()),())) (λE=>some E.1.1) λL=>some (-1)
def aiF:=bS YX cE (bx Mc) 19 [] [awR] func298
def GK(T:aL)(C:jx)(D:cN)(E:Int):ah (Bool):=xI D.bD E λL=>bif L > C.bD then some true else xI D.bC E λO=>some (O > C.bC)
def aiG:=aZ [(true,.ga),(true,.n5),(true,.Array),(false,.int)] bP (nE GK) 27 [] func452
abbrev aiH:=((af×Int×af×Int×Int×af)×((af×af×af×af)×(Int×Int×Int×Int×af)×(aa bN)×(aa Int)×(aa Int)×af))
def aiI(x:aiH):ah (aiH⊕(((af×Int×af×Int×af)×((af×af×af×af)×(Int×Int×Int×Int×af)×(aa bN)×(aa Int)×(aa Int)×af))⊕Empty)):=letI O:=(1:Int);letI T:=(0:Int);letI E:=x.1.2.2.2;letI D:=x.2.2.2;letI C:=W6 ((W6 (E.1*x.2.2.1.2.2.2.1))+E.2.1);bif E.2.1<x.2.2.1.2.2.2.1 then xL D.1 C λe4=>xM D.1 C λZ=>xC Z.symbols T (xM D.1 C λe9=>xM e9.symbols T λuU=>xM D.1 C λiA=>xC iA.symbols T (xM D.1 C λU=>xM U.symbols T λoz=>xM D.1 C λDF=>letI L:=D.1.set C.toNat (⟨(U.symbols.set T.toNat (bits .xor .i64 uU 5)),DF.hG⟩:bN);xM L C λGL=>xC GL.symbols O (xM L C λsv=>xM sv.symbols O λtD=>xM L C λo9=>xC o9.symbols O (xM L C λY=>xM Y.symbols O λyT=>xM L C λGM=>xG (((),x.1.2.1,(),E.1,(W6 (E.2.1+1)),()),(((),(),(),()),x.2.2.1,(L.set C.toNat (⟨(Y.symbols.set O.toNat (bits .xor .i64 tD 10)),GM.hG⟩:bN)),D.2.1,D.2.2.1,()))))))else ax (((),x.1.2.1,(),E.1,()),(((),(),(),()),x.2.2.1,D.1,D.2.1,D.2.2.1,()))
def awS:KY 110 (aW f408):=⟨0,lB 0 ⟨[(2,.aG 20000 0),(4,tI),(5,.aG 5 0),(10,tI),(11,tI)],zz6,[]⟩ [(2,⟨[(2,.aG 20000 0),(4,tI),(5,.aG 5 0),(10,tI)],zz6,[]⟩)] aiI,lp []⟩
def awT(C:aL)(x1:jx)(D:cN)(x3 U:Int):ah ((af)×(cN×af)):=letI Y:=W6 ((W6 (x3*C.rows))+U);(let k67:Int -> Int -> Int -> Int -> Int -> Int -> (aa bN) -> (aa Int) -> (aa Int) -> ah ((af)×(cN×af)):=λj38 L j40 j41 j42 j43 ZG j45 j46=>letI Z:=W6 (L-1);letI u5:=W6 (L+1);letI u4:=j45.set L.toNat (0:Int);letI O:=j46.set L.toNat (0:Int);xL j45 L λe49=>xL j46 L λe52=>(let k66:(aa Int) -> ah ((af)×(cN×af)):=λT=>bif j38<(W6 (j42-1))then xL T u5 λe62=>letI u6:=W6 (e62+1);xL T u5 λe65=>some ((),((⟨ZG,u4,(T.set u5.toNat (if 100000<u6 then 100000 else u6))⟩:cN),()))else some ((),((⟨ZG,u4,T⟩:cN),()));bif j38 > 0 then xL O Z λe55=>letI u8:=W6 (e55+1);xL O Z λe58=>(k66 (O.set Z.toNat (if 100000<u8 then 100000 else u8)))else (k66 O));letI u0:=k67 U Y C.cg C.aC C.rows C.aO D.cells D.bD D.bC;(GK C x1 D Y).bind λy1=>bif y1 then bh aiI (((),U,(),Y,0,()),(((),(),(),()),(C.cg,C.aC,C.rows,C.aO,()),D.cells,D.bD,D.bC,())) λZH=>letI E:=ZH.2.2;(k67 ZH.1.2.1 ZH.1.2.2.2.1 E.1.1 E.1.2.1 E.1.2.2.1 E.1.2.2.2.1 E.2.1 E.2.2.1 E.2.2.2.1)else u0)
def aII:=jc [.v true .ga,.v true .n5,.p .Array 4 0,.v false .int,.v false .int] [] (Dl awT) 110 [aiG] [awS] func408
abbrev aiJ:=((af×Int×Int×af)×(((aa Int)×(aa Int)×Int×af)×af))
def GN(x:aiJ):ah (aiJ⊕(((Bool×af)×(af))⊕(((af×Int×af)×(((aa Int)×(aa Int)×Int×af)×af))⊕Empty))):=letI C:=x.1.2;letI D:=xG (((),C.1,(W6 (C.2.1+1)),()),(x.2.1,()));bif C.2.1<C.1 then xI x.2.1.1 C.1 λE=>bif E >= 0 then xI x.2.1.1 C.2.1 λL=>xI x.2.1.1 C.1 λO=>bif (L==O)then ax ((false,()),())else D else D else aU (((),C.1,()),(x.2.1,()))
def aiK:KY 90 (sn (aW f297) 0):=⟨2,lB 2 ⟨[(1,.aG 1 0),(3,tI),(4,tI)],YS,[]⟩ [(1,qW),(4,agr)] GN,lp []⟩
abbrev aiL:=((af×Int×af)×(((aa Int)×(aa Int)×Int×af)×af))
def Md(x:aiL):ah (aiL⊕(((Bool×af)×(af))⊕(((af)×(af))⊕Empty))):=letI C:=x.2.1;letI D:=x.1.2.1;letI E:=ax ((false,()),());letI L:=bE GN (((),D,0,()),(C,())) (λT=>ax ((T.1.1,()),())) λO=>xG (((),(W6 (O.1.2.1+1)),()),(O.2.1,()));bif D<(C.1.length:Int)then xI C.1 D λU=>(cT U (-1) 15).bind λY=>bif (!Y)then E else xI C.2.1 D λZ=>(cT Z C.2.2.1 100000).bind λy8=>bif (!y8)then E else xI C.1 D λgR=>bif gR<0 then xI C.2.1 D λmQ=>bif (mQ != 0)then E else L else L else aU ((),())
def awU:KY 90 (aW f297):=⟨0,lB 0 agr [(1,qW),(2,fS)] Md,lq [fG] [aiK,aiK]⟩
def Me(C:bU):ah (Bool):=(cT (C.rows.length:Int) 1 16).bind λD=>bif (!D)then some false else bif ((C.rows.length:Int) != (C.counts.length:Int))then some false else (cT C.dx 0 100000).bind λE=>bif (!E)then some false else bE Md (((),0,()),((C.rows,C.counts,C.dx,()),())) (λL=>some L.1.1) λO=>some true
def awV:=bS [(true,.gp)] bP (bO Me) 90 [fG] [awU] func297
abbrev aiM:=((af×Int×Int×af)×((af×af×Int×af)×(aa Int)×(aa Int)×af))
def Mf(x:aiM):ah (aiM⊕(((Int×af)×((af×af×Int×af)×(aa Int)×(aa Int)×af))⊕(((af×Int×af)×((af×af×Int×af)×(aa Int)×(aa Int)×af))⊕Empty))):=letI E:=((),(),x.2.1.2.2.1,());letI C:=x.2.2;letI D:=x.1.2.2.1;letI L:=(E,C.1,C.2.1,());bif D<(C.1.length:Int)then xL C.1 D λO=>bif (O==x.1.2.1)then xL C.2.1 D λT=>xL C.2.1 D λU=>ax ((D,()),(E,C.1,(C.2.1.set D.toNat (W6 (T+1))),()))else xG (((),x.1.2.1,(W6 (D+1)),()),L)else aU (((),x.1.2.1,()),L)
def awW:KY 88 (aW f453):=⟨0,lB 0 ⟨[(0,.aG 20000 0),(1,tI),(5,tI)],FZ,[]⟩ [(1,⟨[(4,tI)],FZ,[]⟩),(2,⟨[(0,.aG 20000 0),(1,tI)],FZ,[]⟩)] Mf,lp []⟩
abbrev aiN:=((af×Int×Int×af)×((af×af×Int×af)×(aa Int)×(aa Int)×af))
def Mg(x:aiN):ah (aiN⊕(((Int×af)×((af×af×Int×af)×(aa Int)×(aa Int)×af))⊕(((af×af)×((af×af×Int×af)×(aa Int)×(aa Int)×af))⊕Empty))):=letI C:=x.2.2;letI E:=x.2.1.2.2.1;letI L:=(((),(),E,()),C.1,C.2.1,());letI D:=x.1.2.2.1;bif D<(C.1.length:Int)then xL C.2.1 D λO=>bif (O==E)then xL C.1 D λT=>xL C.2.1 D λU=>ax ((D,()),(((),(),E,()),(C.1.set D.toNat x.1.2.1),(C.2.1.set D.toNat (W6 (E+1))),()))else xG (((),x.1.2.1,(W6 (D+1)),()),L)else aU (((),()),L)
def awX:KY 88 (aW f453):=⟨2,lB 2 ⟨[(0,.aG 20000 0),(1,tI),(6,tI)],FZ,[]⟩ [(1,⟨[(4,tI)],FZ,[]⟩),(4,⟨[(0,.aG 20000 0)],FZ,[]⟩)] Mg,lp []⟩
def Sq(L:bU)(T:Int):ah ((Int)×(bU×af)):=bE Mf (((),T,0,()),(((),(),L.dx,()),L.rows,L.counts,())) (λC=>some (C.1.1,((⟨C.2.2.1,C.2.2.2.1,C.2.1.2.2.1⟩:bU),()))) λD=>bE Mg (((),D.1.2.1,0,()),(((),(),D.2.1.2.2.1,()),D.2.2.1,D.2.2.2.1,())) (λE=>some (E.1.1,((⟨E.2.2.1,E.2.2.2.1,E.2.1.2.2.1⟩:bU),()))) λO=>some ((-1),((⟨O.2.2.1,O.2.2.2.1,(W6 (O.2.1.2.2.1+1))⟩:bU),()))
def awY:=jc [.p .gp 2 0,.v false .int] cE (bx Sq) 88 [] [awW,awX] func453
def Mh(D:bU)(O E:Int):ah (bU×Bool):=(Le D).bind λT=>letI L:=some (T,false);(Me D).bind λU=>bif (!U)then L else (cT O 0 15).bind λY=>bif (!Y)then L else (cT E 2 1000).bind λZ=>bif (!Z)then L else (Sq T O).bind λC=>(Me C.2.1).bind λy6=>bif (!y6)then (Le D).bind λy7=>some (y7,false)else bif C.1 >= 0 then xL C.2.1.counts C.1 λgR=>if E=0 then none else some (C.2.1,((gR.tmod E)==0))else some (C.2.1,false)
def awZ:=aZ [(true,.gp),(false,.int),(false,.int)] [(true,.gp,2),(false,.bool,0)] (fR Mh) 46 [fG,ahq,awV,awY] func409
def ZI(T C:Int):ah ((aa Int)):=letI L:=W6 (T-1);letI O:=some ([]:aa Int);letI D:=([(W6 (C+1))]:aa Int);letI E:=([(W6 (C-1))]:aa Int);(cT T 2 16).bind λU=>bif (!U)then O else (cT C 0 L).bind λY=>bif (!Y)then O else bif C > 0 then bif xZ E then bif C<L then bif bI ((xA E).length+D.length)then some ((xA E)++D)else none else some (xA E)else none else bif C<L then bif xZ D then some (xA D)else none else O
def aw0:=aZ AT mP (bx ZI) 35 [fG] func410
def aw1:bG:=⟨[(2,.aG 20000 50),(4,tI),(5,.aG 5 0),(10,tI),(11,tI)],[(5,.aB fj)],kV⟩
def aw2:aa (Nat×bG):=[(2,⟨[(2,.aG 20000 50),(4,tI),(5,.aG 5 0),(10,tI)],[(5,.aB fj)],kV⟩)]
abbrev aiO:=((af×Int×af×Int×Int×af)×(av×(Int×Int×Int×Int×af)×af))
def A8(x:aiO):ah (aiO⊕(((af×Int×af×Int×af)×(av×(Int×Int×Int×Int×af)×af))⊕Empty)):=letI O:=(1:Int);letI T:=(0:Int);letI E:=x.1.2.2.2;letI D:=x.2.1;letI C:=W6 ((W6 (E.1*x.2.2.1.2.2.2.1))+E.2.1);bif E.2.1<x.2.2.1.2.2.2.1 then xL D.array.cells C λe4=>xM D.array.cells C λZ=>xC Z.symbols T (xM D.array.cells C λe9=>xM e9.symbols T λuU=>xM D.array.cells C λiA=>xC iA.symbols T (xM D.array.cells C λU=>xM U.symbols T λoz=>xM D.array.cells C λDF=>letI L:=D.array.cells.set C.toNat (⟨(U.symbols.set T.toNat (bits .xor .i64 uU 5)),DF.hG⟩:bN);xM L C λGL=>xC GL.symbols O (xM L C λsv=>xM sv.symbols O λtD=>xM L C λo9=>xC o9.symbols O (xM L C λY=>xM Y.symbols O λyT=>xM L C λGM=>xG (((),x.1.2.1,(),E.1,(W6 (E.2.1+1)),()),({D with array:=⟨(L.set C.toNat (⟨(Y.symbols.set O.toNat (bits .xor .i64 tD 10)),GM.hG⟩:bN)),D.array.bD,D.array.bC⟩},x.2.2.1,()))))))else ax (((),x.1.2.1,(),E.1,()),(D,x.2.2.1,()))
def aw3:KY 110 (aW f408):=⟨0,lB 0 aw1 aw2 A8,lp []⟩
def Mi(C:aL)(x1:jx)(Y:av)(x3 Z:Int):ah ((af)×(av×af)):=letI u2:=W6 ((W6 (x3*C.rows))+Z);(let k65:av -> Int -> Int -> Int -> Int -> Int -> Int -> ah ((af)×(av×af)):=λD j39 E j41 j42 j43 ZG=>letI u7:=W6 (E-1);letI u5:=W6 (E+1);letI u3:=D.array.bD.set E.toNat (0:Int);letI L:=D.array.bC.set E.toNat (0:Int);xL D.array.bD E λe47=>xL D.array.bC E λe50=>(let k64:(aa Int) -> ah ((af)×(av×af)):=λO=>bif j39<(W6 (j43-1))then xL O u5 λe60=>letI u6:=W6 (e60+1);xL O u5 λe63=>some ((),({D with array:=⟨D.array.cells,u3,(O.set u5.toNat (if 100000<u6 then 100000 else u6))⟩},()))else some ((),({D with array:=⟨D.array.cells,u3,O⟩},()));bif j39 > 0 then xL L u7 λe53=>letI u8:=W6 (e53+1);xL L u7 λZJ=>(k64 (L.set u7.toNat (if 100000<u8 then 100000 else u8)))else (k64 L));letI u1:=k65 Y Z u2 C.cg C.aC C.rows C.aO;(GK C x1 Y.array u2).bind λy1=>bif y1 then bh A8 (((),Z,(),u2,0,()),(Y,(C.cg,C.aC,C.rows,C.aO,()),())) λT=>letI U:=T.2.2.1;(k65 T.2.1 T.1.2.1 T.1.2.2.2.1 U.1 U.2.1 U.2.2.1 U.2.2.2.1)else u1)
def aiP:=jc af7 [] (Dl Mi) 110 [aiG] [aw3] func408
def aw4:bG:=⟨[(0,.aG 20000 0),(3,.aG 3 0),(7,tB),(8,.lf (.own 1000000000195000)),(9,tI)],[(3,.aB fj),(1000000000195000,.sl .int 2)],QO⟩
def aw5:aa (Nat×bG):=[(2,Za)]
abbrev aiQ:=((af×af×Bool×af×Int×af)×(av×(Int×Int×Int×Int×af)×(aa Int)×af))
def uV(x:aiQ):ah (aiQ⊕(((af)×(av×af))⊕Empty)):=letI D:=x.2.2.2.1;letI E:=x.1.2.2.2.2.1;letI O:=((),(),x.1.2.2.1,(),(W6 (E+1)),());letI C:=x.2.1;bif E<(D.length:Int)then bif x.1.2.2.1 then xL D E λT=>letI L:=(⟨x.2.2.1.2.1,T,0⟩:aJ);(Mc C.pending L).bind λU=>bif U<0 then bif bI (C.pending.length+([L]:aa aJ).length)then xG (O,({C with pending:=(C.pending++([L]:aa aJ))},x.2.2.1,D,()))else none else xG (O,(C,x.2.2.1,D,()))else ax ((),(C,()))else ax ((),(C,()))
def aiR:KY 129 (aW f319):=⟨0,lB 0 aw4 aw5 uV,lp [aiF]⟩
def Sr(O:av)(C:aH):ah ((af)×(av×af)):=letI Y:=ZI O.config.az.rows C.row;letI Z:=(C.kind,C.ay,C.row,C.bR,());(Mi O.config.az O.config.ep O C.ay C.row).bind λy1=>letI D:=y1.2.1;letI E:=(D.pending.length:Int);(Mc D.pending (⟨C.ay,C.row,0⟩:aJ)).bind λL=>letI T:=W6 (L+1);letI u3:=(D.pending.take (E.toNat)).drop (T.toNat);letI U:=(D.pending.take L.toNat).drop ((0:Int).toNat);bif L >= 0 then if 0 <= (0:Int)/\0 <= L/\L <= E then if 0 <= T/\T <= E/\E <= E then bif xZ U then bif bI ((xA U).length+u3.length)then xL D.bL C.ay λe5=>xL D.guard C.ay λe8=>xM D.bL C.ay λgR=>xM D.bL C.ay λmQ=>(Mh (⟨gR.rows,mQ.counts,e5.dx⟩:bU) C.row e8).bind λje=>xL D.bL C.ay λoy=>Y.bind λjB=>bh uV (((),(),je.2,(),0,()),({D with bL:=(D.bL.set C.ay.toNat je.1),pending:=((xA U)++u3)},Z,jB,())) λMj=>some ((),(Mj.2.1,()))else none else none else none else none else xL D.bL C.ay λsv=>xL D.guard C.ay λZK=>xM D.bL C.ay λo9=>xM D.bL C.ay λZE=>(Mh (⟨o9.rows,ZE.counts,sv.dx⟩:bU) C.row ZK).bind λyS=>xL D.bL C.ay λGM=>Y.bind λA9=>bh uV (((),(),yS.2,(),0,()),({D with bL:=(D.bL.set C.ay.toNat yS.1)},Z,A9,())) λz42=>some ((),(z42.2.1,()))
def aw6:=jc [.p .cP 4 0,.v true .Command] [] (bx Sr) 129 [aiF,aiP,awZ,aw0] [aiR,aiR] func319
def aw7:bG:=⟨[(2,.aG 20000 50),(3,tI),(4,.aG 4 0),(5,.aG 5 0),(8,tI)],[(4,.aB fj),(5,.aB [.int .i64,.int .i64])],kV⟩
def aw8:aa (Nat×bG):=[(2,F2)]
abbrev aiS:=((af×Int×af×af×Int×af)×(av×(Int×Int×Int×Int×af)×(Int×Int×af)×af))
def Mk(x:aiS):ah (aiS⊕(((af)×(av×af))⊕Empty)):=letI D:=x.1.2.2.2.2.1;letI C:=x.2.2.1;bif D<C.2.2.1 then (Mi (⟨C.1,C.2.1,C.2.2.1,C.2.2.2.1⟩:aL) (⟨x.2.2.2.1.1,x.2.2.2.1.2.1⟩:jx) x.2.1 x.1.2.1 D).bind λE=>xG (((),x.1.2.1,(),(),(W6 (D+1)),()),(E.2.1,C,x.2.2.2.1,()))else ax ((),(x.2.1,()))
def aw9:KY 21 (aW f411):=⟨0,lB 0 aw7 aw8 Mk,lp [aiP]⟩
def ZL(C:aL)(D:jx)(E:av)(L:Int):ah ((af)×(av×af)):=bh Mk (((),L,(),(),0,()),(E,(C.cg,C.aC,C.rows,C.aO,()),(D.bD,D.bC,()),())) λO=>some ((),(O.2.1,()))
def axa:=jc [.v true .ga,.v true .n5,.p .cP 4 50,.v false .int] [] (nE ZL) 21 [] [aw9] func411
abbrev aiT:=((af×Int×af×Int×af)×(av×(aa aJ)×af))
def GO(x:aiT):ah (aiT⊕(((af×af×af)×(av×(aa aJ)×af))⊕Empty)):=letI C:=x.1.2.2.2.1;letI D:=((),x.1.2.1,(),(W6 (C+1)),());bif C<(x.2.1.pending.length:Int)then xL x.2.1.pending C λL=>bif (L.ay != x.1.2.1)then xL x.2.1.pending C λE=>bif bI (x.2.2.1.length+([E]:aa aJ).length)then xG (D,(x.2.1,(x.2.2.1++([E]:aa aJ)),()))else none else xG (D,(x.2.1,x.2.2.1,()))else ax (((),(),()),(x.2.1,x.2.2.1,()))
def axb:KY 82 (aW f320):=⟨0,lB 0 ⟨[(0,.aG 20000 0),(1,tI),(4,.lf (.own 48)),(5,tI)],[(48,.sl .Addr 2)],kV⟩ [(2,⟨[(0,.aG 20000 0),(4,.lf (.own 48))],[(48,.sl .Addr 2)],kV⟩)] GO,lp []⟩
def Ml(C:av)(E:Int):ah ((af)×(av×af)):=(ZL C.config.az C.config.ep (⟨C.config,C.box,C.now,C.bq,C.ready,C.array,C.spare,C.aV,C.bL,C.guard,C.pending,C.queue,C.shares,C.drain,C.bk,C.cB,C.errors,C.trace,C.cr⟩:av) E).bind λO=>letI D:=O.2.1;(Lq D.config.fZ).bind λT=>xL D.bL E λY=>xL D.guard E λZ=>bh GO (((),E,(),0,()),({D with bL:=(D.bL.set E.toNat T.1),guard:=(D.guard.set E.toNat D.box.bK.dK)},([]:aa aJ),())) λL=>letI U:=L.2.1;some ((),({U with pending:=L.2.2.1},()))
def aiU:=jc Kg [] (bx Ml) 82 [ahD,axa] [axb] func320
def Ss(C:cO)(D:Int):ah (cO×Bool):=(Dy C).bind λE=>letI L:=some (E,false);(DB C).bind λO=>bif (!O)then L else (cT D 0 (W6 ((C.aI.length:Int)-1))).bind λT=>bif (!T)then L else xI C.aI D λU=>bif U <= (-2)then L else xI C.aI D λY=>xL E.aI D λZ=>some ((⟨(E.aI.set D.toNat (W6 (Y-1))),E.wait,E.dy⟩:cO),true)
def axc:=aZ QU [(true,.jJ,2),(false,.bool,0)] (bx Ss) 41 [fG,Zl,RL] func321
def DT(D:aL)(C:aJ):ah (Int):=(GJ D C).bind λE=>bif (!E)then some (-1)else some (W6 ((W6 ((W6 ((W6 (C.ay*D.rows))+C.row))*D.aO))+C.bR))
def ZM:=aZ QW cE (bx DT) 23 [ZF] func264
abbrev aiV:=(((aa aN)×Int×Int×af)×(af))
def Mm(x:aiV):ah (aiV⊕(((Int×af)×(af))⊕(((af)×(af))⊕Empty))):=letI C:=x.1.2.2.1;bif C<(x.1.1.length:Int)then xI x.1.1 C λD=>bif (D.id==x.1.2.1)then ax ((C,()),())else xG ((x.1.1,x.1.2.1,(W6 (C+1)),()),())else aU ((),())
def axd:KY 20 (aW f301):=⟨0,lB 0 YP [(1,lN),(2,fS)] Mm,lp []⟩
def Mn(C:aa aN)(D:Int):ah (Int):=bE Mm ((C,D,0,()),()) (λE=>some E.1.1) λL=>some (-1)
def aiW:=bS Kc cE (bx Mn) 20 [] [axd] func301
def Su(C:aa aN)(U:Int):ah ((aa aN)×Bool):=letI D:=(C.length:Int);(Mn C U).bind λE=>letI L:=W6 (E+1);letI T:=(C.take D.toNat).drop L.toNat;letI O:=(C.take E.toNat).drop (0:Int).toNat;bif E<0 then bif xZ C then some ((xA C),false)else none else if 0 <= (0:Int)/\0 <= E/\E <= D then bif xZ O then if 0 <= L/\L <= D/\D <= D then bif bI ((xA O).length+T.length)then some (((xA O)++T),true)else none else none else none else none
def axe:=aZ Kc [(false,(.sl .dg),2),(false,.bool,0)] (bx Su) 27 [aiW] func412
end Go.Proofs.YtnilicojgkhpnaaGreat
