/-
  Functions of the program as plain functions of contents, and that the code computes them. Nothing here is a claim.
-/
import Derived.Test.YtnilicojgkhpnaaGreatVZ
import Derived.Test.YtnilicojgkhpnaaGreatRows
import Derived.Test.YtnilicojgkhpnaaGreatG1
import Derived.Test.YtnilicojgkhpnaaGreatG2
import Derived.Test.YtnilicojgkhpnaaGreatG3
import Derived.Test.YtnilicojgkhpnaaGreatG4
import Derived.Test.YtnilicojgkhpnaaGreatG5
import Derived.Test.YtnilicojgkhpnaaGreatG6
import Derived.Test.YtnilicojgkhpnaaGreatG7
import Derived.Test.YtnilicojgkhpnaaGreatG8
namespace Go.Proofs.YtnilicojgkhpnaaGreat
set_option linter.defProp false
open Go.RowKit Go.Proofs.Tryz
set_option linter.unusedVariables false
set_option maxRecDepth 100000
def FJ(C:gB)(D:Int):ah (gB):=(CV C).bind λE=>bif (!E)then some C else bif D >= C.high then some (⟨true,C.low,C.high⟩:gB)else bif D <= C.low then some (⟨false,C.low,C.high⟩:gB)else some C
def ax3:=aM [(true,.kN),(false,.int)] [(true,.kN,0)] (br FJ) 22 [RC] func74
abbrev ajh:=((Bool×Int×(aa bA)×Int×Int×af)×(af))
def LI(x:ajh):ah (ajh⊕(((Int×af)×(af))⊕Empty)):=letI C:=x.1.2.2;letI D:=C.2.2.1;bif D<C.2.1 then xI C.1 D λE=>bif (E.write==x.1.1)then xG ((x.1.1,(W6 (x.1.2.1+1)),C.1,C.2.1,(W6 (D+1)),()),())else xG ((x.1.1,x.1.2.1,C.1,C.2.1,(W6 (D+1)),()),())else av ((x.1.2.1,()),())
def ax4:KY 22 (aS f75):=⟨0,lB 0 ⟨[(1,tB),(5,tI),(8,.lf (.aF .dw 0)),(9,tI),(10,tI)],[],[]⟩ [(2,vG)] LI,lp []⟩
def FK(C:aa bA)(D:Bool):ah (Int):=bh LI ((D,0,C,(C.length:Int),0,()),()) λE=>some E.1.1
def ax5:=bT [(false,(.sl .dw)),(false,.bool)] cq (br FK) 22 [] [ax4] func75
def FL(C:eE)(E:Bool):ah (eE):=letI D:=W6 (C.idle+1);(C1 C).bind λL=>bif (!L)then some C else bif E then some (⟨C.state,C.since,0⟩:eE)else some (⟨C.state,C.since,(if 1000000<D then 1000000 else D)⟩:eE)
def ax6:=aM [(true,.Power),(false,.bool)] [(true,.Power,0)] (br FL) 18 [RO] func76
abbrev aji:=((af×(aa Int)×Int×Int×af)×((aa Int)×af))
def LJ(x:aji):ah (aji⊕(((af×af)×((aa Int)×af))⊕Empty)):=letI C:=x.1.2.2.2.1;letI D:=((),x.1.2.1,x.1.2.2.1,(W6 (C+1)),());bif C<x.1.2.2.1 then xI x.1.2.1 C λE=>bif E >= 4 then bif bP (x.2.1.length+([C]:aa Int).length)then xG (D,((x.2.1++([C]:aa Int)),()))else none else xG (D,(x.2.1,()))else av (((),()),(x.2.1,()))
def ax7:KY 26 (aS f225):=⟨0,lB 0 ⟨[(3,.lf (.own 9)),(11,.lf (.aF .int 0)),(12,tI),(13,tI)],[(9,.sl .int 2)],[]⟩ [(2,⟨[(3,.lf (.own 9))],[(9,.sl .int 2)],[]⟩)] LJ,lp []⟩
def FM(C:de):ah ((aa Int)):=(As C).bind λD=>bif (!D)then some ([])else bh LJ (((),C.aH,(C.aH.length:Int),0,()),(([]:aa Int),())) λE=>some E.2.1
def YL:=bT Cl lK (bF FM) 26 [Lx] [ax7] func225
def Au(C:ax):ah (Bool):=bif (C.queue.length:Int) > 0 then some true else bif (C.pending.length:Int) > 0 then some true else (FM C.aP).bind λD=>some ((D.length:Int) > 0)
def ajj:=aM sv bS (bF Au) 20 [YL] func77
def LK(C:gJ)(E:Bool):ah (gJ×Bool):=(Lc C).bind λD=>bif (!E)then some (D,false)else bif (!C.waits)then some (D,false)else (Fk C.next).bind λL=>some ((⟨L,D.next,false⟩:gJ),true)
def ax8:=aM [(true,.jJ),(false,.bool)] [(true,.jJ,2),(false,.bool,0)] (br LK) 23 [aih,aif] func78
def x6(C:kZ)(D:Int):ah (kZ×Int):=letI E:=some (C,(-1));(cz C.every 1 100000).bind λL=>bif (!L)then E else (cz C.wait 1 C.every).bind λO=>bif (!O)then E else bif D<1 then E else (cz C.next 0 (W6 (D-1))).bind λT=>bif (!T)then E else bif (W6 (C.wait-1)) > 0 then some ((⟨C.next,C.every,(W6 (C.wait-1))⟩:kZ),(-1))else if D=0 then none else some ((⟨((W6 (C.next+1)).tmod D),C.every,C.every⟩:kZ),C.next)
def ax9:=aM [(true,.nL),(false,.int)] [(true,.nL,0),(false,.int,0)] (br x6) 52 [en] func80
abbrev ajk:=((Int×Int×Int×Int×af)×(af))
def ajl(x:ajk):ah (ajk⊕(((Int×af)×(af))⊕Empty)):=letI E:=x.1.2.1;letI C:=x.1.2.2;letI O:=bits .xor .i64 C.1 x.1.1;letI L:=W6 (C.2.1+1);letI D:=W6 (x.1.1*2 ^ (min (1:Int).toNat IntKind.i64.bits));bif C.2.1<4 then if C.2.1<0 then none else bif ((bits .and .i64 (E.fdiv (2 ^ (min C.2.1.toNat IntKind.i64.bits))) 1)==1)then bif D > 15 then xG (((bits .xor .i64 D 19),E,O,L,()),())else xG ((D,E,O,L,()),())else bif D > 15 then xG (((bits .xor .i64 D 19),E,C.1,L,()),())else xG ((D,E,C.1,L,()),())else av ((C.1,()),())
def aya:KY 34 (aS f338):=⟨0,lB 0 Xw [(2,vG)] ajl,lp []⟩
def jn(C D:Int):ah (Int):=(CX C).bind λE=>bif (!E)then some (-1)else (CX D).bind λL=>bif (!L)then some (-1)else bh ajl ((C,D,0,0,()),()) λO=>some O.1.1
def LL:=bT EJ cq (br jn) 34 [YE] [aya] func338
abbrev ajm:=((Int×Int×Int×af)×(af))
def ajn(x:ajm):ah (ajm⊕(((Int×af)×(af))⊕Empty)):=bif x.1.2.1 > 0 then (jn x.1.2.2.1 x.1.1).bind λC=>xG ((x.1.1,(W6 (x.1.2.1-1)),C,()),())else av ((x.1.2.2.1,()),())
def ayb:KY 22 (aS f416):=⟨0,lB 0 ⟨[(0,tI),(1,tI),(5,tI)],[],[]⟩ [(2,vG)] ajn,lp [LL]⟩
def LM(C D:Int):ah (Int):=(CX C).bind λE=>bif (!E)then some (-1)else (cz D 0 1000).bind λL=>bif (!L)then some (-1)else bh ajn ((C,D,1,()),()) λO=>some O.1.1
def ajo:=bT EJ cq (br LM) 22 [en,YE] [ayb] func416
abbrev ajp:=(((aa Int)×af×Int×Int×Int×(aa Int)×Int×Int×af)×((aa Int)×af))
def C2(x:ajp):ah (ajp⊕((((aa Int)×af×Int×Int×af)×((aa Int)×af))⊕Empty)):=letI C:=x.1.2.2;letI D:=C.2.2;letI E:=D.2.2.2.1;bif E<D.2.2.1 then xI D.2.1 E λL=>xL x.2.1 C.1 λO=>(LM 2 (W6 (E*C.1))).bind λT=>(jn L T).bind λU=>xL x.2.1 C.1 λY=>xG ((x.1.1,(),C.1,C.2.1,D.1,D.2.1,D.2.2.1,(W6 (E+1)),()),((x.2.1.set C.1.toNat (bits .xor .i64 O U)),()))else av ((x.1.1,(),C.2.1,D.1,()),(x.2.1,()))
def ayc:KY 38 (qQ (aS f336) 0):=⟨2,lB 2 ⟨[(0,.lf (.aF .int 0)),(3,.lf (.own 10)),(4,tI),(12,tI),(13,tI),(16,.lf (.aF .int 0)),(17,tI),(18,tI)],[(10,.sl .int 2)],[]⟩ [(4,aeG)] C2,lp [LL,ajo]⟩
abbrev ajq:=(((aa Int)×af×Int×Int×af)×((aa Int)×af))
def FN(x:ajq):ah (ajq⊕(((af×af)×((aa Int)×af))⊕Empty)):=letI C:=x.1.2.2;bif C.2.1<C.1 then bh C2 ((x.1.1,(),C.2.1,C.1,C.2.1,x.1.1,(x.1.1.length:Int),0,()),(x.2.1,())) λD=>xG ((D.1.1,(),D.1.2.2.1,(W6 (D.1.2.2.2.1+1)),()),(D.2.1,()))else av (((),()),(x.2.1,()))
def ayd:KY 38 (aS f336):=⟨0,lB 0 aeG [(2,⟨[(3,.lf (.own 10))],[(10,.sl .int 2)],[]⟩)] FN,lq [] [ayc]⟩
def Av(D:aa Int):ah ((aa Int)):=letI C:=(3:Int);(vQ D 11).bind λE=>bif (!E)then some ([])else if 0 <= C/\C <= 3/\C<1073741824 then bh FN ((D,(),((List.replicate C.toNat (0:Int)).length:Int),0,()),((List.replicate C.toNat (0:Int)),())) λL=>some L.2.1 else none
def YM:=bT nh lK (bF Av) 38 [Lq] [ayd] func336
def RQ(D:aa Int):ah (Bool):=(Av D).bind λC=>bif jt C then none else xL C (0:Int) λE=>bif (E==0)then xL C (1:Int) λL=>bif (L==0)then xL C (2:Int) λO=>some (O==0)else some false else some false
def aye:=aM nh bS (bF RQ) 26 [YM] func337
abbrev ajr:=((Int×Int×af)×(af))
def ajs(x:ajr):ah (ajr⊕(((Int×af)×(af))⊕(((af)×(af))⊕Empty))):=bif x.1.2.1 <= 15 then (jn x.1.1 x.1.2.1).bind λC=>bif (C==1)then av ((x.1.2.1,()),())else xG ((x.1.1,(W6 (x.1.2.1+1)),()),())else aQ ((),())
def ayf:KY 13 (aS f339):=⟨0,lB 0 afk [(1,⟨[(2,tI)],[],[]⟩),(2,fq)] ajs,lp [LL]⟩
def C3(C:Int):ah (Int):=bE ajs ((C,1,()),()) (λD=>some D.1.1) λE=>some (-1)
def ajt:=bT lM cq (bF C3) 13 [] [ayf] func339
abbrev aju:=((Int×Int×af)×(af))
def ajv(x:aju):ah (aju⊕(((Int×af)×(af))⊕(((af)×(af))⊕Empty))):=bif x.1.2.1<15 then (LM 2 x.1.2.1).bind λC=>bif (C==x.1.1)then av ((x.1.2.1,()),())else xG ((x.1.1,(W6 (x.1.2.1+1)),()),())else aQ ((),())
def ayg:KY 13 (aS f340):=⟨0,lB 0 afk [(1,⟨[(2,tI)],[],[]⟩),(2,fq)] ajv,lp [ajo]⟩
def RR(C:Int):ah (Int):=bE ajv ((C,0,()),()) (λD=>some D.1.1) λE=>some (-1)
def ayh:=bT lM cq (bF RR) 13 [] [ayg] func340
def LN(L:aa Int):ah ((aa Int)×Int×Int):=letI C:=xA L;letI O:=some (C,2,(-1));(Av L).bind λE=>bif jt E then none else bif xZ L then (RQ L).bind λU=>bif U then some (C,0,(-1))else xL E (0:Int) λY=>bif (Y != 0)then xL E (1:Int) λZ=>bif (Z != 0)then xL E (1:Int) λvM=>xL E (0:Int) λoX=>(C3 oX).bind λiE=>(jn vM iE).bind λT=>(RR T).bind λD=>bif D<11 then xL E (1:Int) λCI=>xL E (2:Int) λKT=>(jn CI T).bind λqc=>bif (qc==KT)then xC C D (if h26:D.toNat<C.length then (let vI:=C[D.toNat]'h26;xL E (0:Int) λvJ=>xC C D (if h32:D.toNat<C.length then (let e33:=C[D.toNat]'h32;some ((C.set D.toNat (bits .xor .i64 vI vJ)),1,D))else none))else none)else O else O else O else O else none
def ajw:=aM nh [(false,(.sl .int),2),(false,.int,0),(false,.int,0)] (bF LN) 64 [YM,aye,LL,ajt,ayh] func228
abbrev ajx:=((Int×(aa Int)×Int×Int×af)×(af))
def LO(x:ajx):ah (ajx⊕(((Int×af)×(af))⊕Empty)):=letI C:=x.1.2.2.2.1;bif C<x.1.2.2.1 then xI x.1.2.1 C λD=>if (W6 (4*C))<0 then none else xG (((bits .or .i64 x.1.1 (W6 (D*2 ^ (min (W6 (4*C)).toNat IntKind.i64.bits)))),x.1.2.1,x.1.2.2.1,(W6 (C+1)),()),())else av ((x.1.1,()),())
def ayi:KY 25 (aS f341):=⟨0,lB 0 ⟨[(4,tI),(10,.lf (.aF .int 0)),(11,tI),(12,tI)],[],[]⟩ [(2,kE)] LO,lp []⟩
def RS(C:aa Int):ah (Int×Bool):=(vQ C 8).bind λD=>bif (!D)then some (0,false)else bh LO ((0,C,(C.length:Int),0,()),()) λE=>some (E.1.1,true)
def ayj:=bT nh [(false,.int,0),(false,.bool,0)] (bF RS) 25 [Lq] [ayi] func341
def RT(D:aa Int):ah ((aa Int)):=letI C:=(D.length:Int);letI E:=(D.take C.toNat).drop (3:Int).toNat;(vQ D 11).bind λL=>bif (!L)then some ([])else if 0 <= (3:Int)/\3 <= C/\C <= C then bif xZ E then some (xA E)else none else none
def ayk:=aM nh lK (bF RT) 10 [Lq] func342
def RU(D:aa Int):ah (Int×Int×Int):=(LN D).bind λC=>bif (C.2.1==2)then some (0,C.2.1,C.2.2)else (RT C.1).bind λE=>(RS E).bind λL=>some (L.1,C.2.1,C.2.2)
def ayl:=aM nh [(false,.int,0),(false,.int,0),(false,.int,0)] (bF RU) 29 [ajw,ayj,ayk] func229
def LP(C:aa bU):ah ((aa bU)):=bif xZ C then some (xA C)else none
def aym:=aM O2 [(false,(.sl .eo),2)] (bF LP) 6 [] func343
abbrev ajy:=((Int×Int×af×af×Int×Int×af)×((aa bU)×af))
def LQ(x:ajy):ah (ajy⊕(((af×Bool×af)×((aa bU)×af))⊕(((Int×Int×af×af)×((aa bU)×af))⊕Empty))):=letI C:=x.1.2.2.2.2;letI E:=xG ((x.1.1,x.1.2.1,(),(),C.1,(W6 (C.2.1+1)),()),(x.2.1,()));bif C.2.1<C.1 then xL x.2.1 C.2.1 λD=>letI L:=W6 (D.times+1);bif (D.line==x.1.1)then bif (D.code==x.1.2.1)then xL x.2.1 C.2.1 λO=>av (((),true,()),((x.2.1.set C.2.1.toNat (⟨O.line,O.code,(if 999<L then 999 else L)⟩:bU)),()))else E else E else aQ ((x.1.1,x.1.2.1,(),()),(x.2.1,()))
def ayn:KY 69 (aS f230):=⟨0,lB 0 aeB [(1,aeW),(2,aeT)] LQ,lp []⟩
abbrev ajz:=((Int×Int×af×af×Int×Int×af)×((aa bU)×af))
def YN(x:ajz):ah (ajz⊕(((af×Bool×af)×((aa bU)×af))⊕(((Int×Int×af×af)×((aa bU)×af))⊕Empty))):=letI C:=x.1.2.2.2.2;letI E:=xG ((x.1.1,x.1.2.1,(),(),C.1,(W6 (C.2.1+1)),()),(x.2.1,()));bif C.2.1<C.1 then xL x.2.1 C.2.1 λD=>letI L:=W6 (D.times+1);bif (D.line==x.1.1)then bif (D.code==x.1.2.1)then xL x.2.1 C.2.1 λO=>av (((),true,()),((x.2.1.set C.2.1.toNat (⟨O.line,O.code,(if 999<L then 999 else L)⟩:bU)),()))else E else E else aQ ((x.1.1,x.1.2.1,(),()),(x.2.1,()))
def ayo:KY 69 (aS f230):=⟨0,lB 0 aeB [(1,aeW),(2,aeT)] YN,lp []⟩
def RX(x0:aa bU)(x1 U:Int):ah ((aa bU)×Bool):=(LP x0).bind λY=>letI Z:=some (Y,false);letI u4:=((x1,U,(),(),(Y.length:Int),0,()),(Y,()));(LD x0).bind λy2=>bif (!y2)then Z else (cz x1 0 1023).bind λy3=>bif (!y3)then Z else bif (U != 1)then bif (U != 2)then Z else bE LQ u4 (λjc=>some (jc.2.1,jc.1.2.1)) λC=>letI E:=(C.2.1.length:Int);letI O:=([(⟨C.1.1,C.1.2.1,1⟩:bU)]:aa bU);bif (E==6)then if 0 <= (1:Int)/\1 <= E/\E <= E then (LP ((C.2.1.take (E.toNat)).drop ((1:Int).toNat))).bind λgD=>bif bP (gD.length+O.length)then some ((gD++O),true)else none else none else bif bP (C.2.1.length+O.length)then some ((C.2.1++O),true)else none else bE YN u4 (λRY=>some (RY.2.1,RY.1.2.1)) λD=>letI L:=(D.2.1.length:Int);letI T:=([(⟨D.1.1,D.1.2.1,1⟩:bU)]:aa bU);bif (L==6)then if 0 <= (1:Int)/\1 <= L/\L <= L then (LP ((D.2.1.take (L.toNat)).drop ((1:Int).toNat))).bind λjV=>bif bP (jV.length+T.length)then some ((jV++T),true)else none else none else bif bP (D.2.1.length+T.length)then some ((D.2.1++T),true)else none
def ayp:=bT XB [(false,(.sl .eo),2),(false,.bool,0)] (fS RX) 69 [en,aje,aym] [ayn,ayo] func230
def x7(C:ax)(E D:Int):ah ((af)×(ax×af)):=bif (D != 0)then (RX C.errors E D).bind λL=>some ((),({C with errors:=L.1},()))else some ((),(C,()))
def ajA:=xN afh [] (fS x7) 21 [ayp] func83
def C4(C:Int)(D:Bool)(E:Int):ah (Bool):=bif (!D)then some (C==0)else (cz C 0 (W6 (E-1))).bind λL=>some L
def ayq:=aM [(false,.int),(false,.bool),(false,.int)] bS (fS C4) 15 [en] func465
def RZ(C:Int):ah (Bool):=some (C==1)
def ayr:=aM lM bS (bF RZ) 5 [] func466
def R0(C:Int):ah (Bool):=bif (C==2)then some true else some (C==3)
def ays:=aM lM bS (bF R0) 9 [] func467
def YO(C:aG)(D E L:Int):ah (Bool):=(cz C.kind 1 9).bind λO=>bif O then (x5 C.kind).bind λT=>(C4 C.ay T D).bind λU=>bif U then (RZ C.kind).bind λY=>(C4 C.row Y E).bind λZ=>bif Z then (R0 C.kind).bind λy6=>(C4 C.bR y6 L).bind λy7=>some y7 else some false else some false else some false
def ayt:=aM [(true,.Command),(false,.int),(false,.int),(false,.int)] bS (sr YO) 39 [en,RG,ayq,ayr,ays] func456
def FO(C:aV)(D:aG):ah (Bool):=(sx C).bind λE=>bif E then (n8 C).bind λL=>(YO D L C.rows C.aT).bind λO=>some O else some false
def YP:=aM XI bS (br FO) 17 [qV,xY,ayt] func426
def LR(T:aV)(D:cy)(C:aG):ah (Bool):=letI E:=D.aZ==0;letI U:=bif E then xI D.aB C.ay λZ=>some (!Z.open_)else some false;letI L:=bif E then xI D.aB C.ay λe6=>some e6.open_ else some false;letI O:=bif (C.kind==6)then some E else bif (C.kind==8)then bif E then (Ap D).bind λy7=>some ((y7.length:Int)==0)else some false else bif (C.kind==7)then some (D.aZ==1)else some (D.aZ==2);letI Y:=bif (C.kind==2)then bif (C.kind==2)then L else O else bif (C.kind==3)then bif (C.kind==3)then L else O else bif (C.kind==4)then L else O;(Ln T D).bind λy1=>bif (!y1)then some false else (FO T C).bind λy2=>bif (!y2)then some false else bif (C.kind==1)then bif (C.kind==1)then U else Y else bif (C.kind==5)then U else Y
def ajB:=aM [(true,.fe),(true,.iI),(true,.Command)] bS (fS LR) 75 [aiN,RE,YP] func351
def R1(C:c9)(D E:Int):ah (Int):=(let T:Bool -> ah (Int):=λL=>(let O:Bool -> ah (Int):=λj2=>bif j2 then some C.jF else (let U:Bool -> ah (Int):=λj3=>bif j3 then some C.gI else (let Y:Bool -> ah (Int):=λj4=>bif j4 then some (W6 (C.gI+C.rp))else (let Z:Bool -> ah (Int):=λj5=>bif j5 then some C.jh else (let k15:Bool -> ah (Int):=λj6=>bif j6 then some (W6 (C.jh+C.rp))else (let k14:Bool -> ah (Int):=λj7=>bif j7 then some C.wr else (let LS:Bool -> ah (Int):=λj8=>bif j8 then some (W6 (C.wr+C.rp))else (let k12:Bool -> ah (Int):=λj9=>bif j9 then some C.rp else (let K4:Bool -> ah (Int):=λCK=>bif CK then some C.mN else some 0;bif (D==5)then (K4 L)else (K4 false));bif (D==4)then (k12 L)else (k12 false));bif (D==3)then (LS L)else (LS false));bif (D==3)then (k14 (E==4))else (k14 false));bif (D==2)then (k15 L)else (k15 false));bif (D==2)then (Z (E==4))else (Z false));bif (D==1)then (Y L)else (Y false));bif (D==1)then (U (E==4))else (U false));bif (D==1)then bif (E==2)then (O true)else (O (E==3))else (O false));bif (E==1)then (T true)else (T (E==5)))
def ajC:=aM [(true,.jI),(false,.int),(false,.int)] cq (fS R1) 103 [] func459
def ayu:enters Tryz.prog 468/\kA Tryz.prog 468 (ci Tryz.prog f468 1 []):=qS 1 [] func468 trivial
def R2(C:c9)(D E:Int)(L:Bool):ah (Int):=bif (D==7)then some C.xp else bif (D==9)then some C.xs else (let U:Bool -> ah (Int):=λj1=>bif j1 then (let Y:Int -> ah (Int):=λj2=>some j2;bif L then (Y C.jG)else (Y C.mI))else (let O:Bool -> ah (Int):=λj4=>bif j4 then (let Z:Int -> ah (Int):=λj5=>some j5;bif L then (Z C.mK)else (Z C.mJ))else (let tU:Bool -> ah (Int):=λj7=>bif j7 then (let k9:Int -> ah (Int):=λj8=>some j8;bif L then (k9 C.mM)else (k9 C.mL))else (let Ad:Bool -> ah (Int):=λCK=>bif CK then some C.pG else (let tV:Bool -> ah (Int):=λYc=>bif Yc then some C.jG else (let Ae:Bool -> ah (Int):=λKF=>bif KF then some C.jh else (let KR:Bool -> ah (Int):=λCL=>bif CL then some C.wr else bif (E==8)then (R1 C D 1).bind λjz=>some jz else (let T:Bool -> ah (Int):=λE6=>bif E6 then some C.nI else some 0;letI u0:=bif (D==8)then (T (E==9))else (T false);bif (D==6)then bif (E==7)then (T true)else u0 else u0);bif (D==3)then (KR (E==6))else (KR false));bif (D==2)then (Ae (E==6))else (Ae false));bif (D==5)then (tV (E==5))else (tV false));bif (D==2)then (Ad (E==3))else (Ad false));bif (D==3)then (tU (E==2))else (tU false));letI u1:=bif (D==3)then (O (E==3))else (O false);bif (D==2)then bif (E==2)then (O true)else u1 else u1);bif (D==1)then (U (E==1))else (U false))
def ayv:=aM ae8 cq (sr R2) 126 [ajC,⟨468,.i _,ayu⟩] func457
def LU(C:aV)(D:Int):ah (Int):=(n8 C).bind λE=>(cz D 0 (W6 (E-1))).bind λL=>bif (!L)then some (-1)else if C.aB=0 then none else some (W6 (D.tdiv C.aB))
def ayw:=aM IC cq (br LU) 15 [en,qV] func458
def LV(U:aV)(O:c9)(C D:aG):ah (Int):=letI Y:=R1 O C.kind D.kind;letI Z:=R2 O C.kind D.kind false;(x5 C.kind).bind λy1=>bif y1 then (x5 D.kind).bind λT=>bif T then (LU U C.ay).bind λy3=>(LU U D.ay).bind λy4=>(R2 O C.kind D.kind (y3==y4)).bind λE=>letI u1:=some (if E > 1 then E else 1);bif T then bif (C.ay==D.ay)then Y.bind λy6=>some (if y6 > (if E > 1 then E else 1)then y6 else (if E > 1 then E else 1))else u1 else u1 else Z.bind λL=>letI u2:=some (if L > 1 then L else 1);bif T then bif (C.ay==D.ay)then Y.bind λy8=>some (if y8 > (if L > 1 then L else 1)then y8 else (if L > 1 then L else 1))else u2 else u2 else Z.bind λy9=>some (if y9 > 1 then y9 else 1)
def ayx:=aM ae9 cq (sr LV) 55 [RG,ayv,ayw,ajC] func427
def ayy:bL:=⟨[(4,.aJ 4 0),(5,.aJ 5 0),(6,.aJ 6 0),(7,.aJ 7 0),(9,tI),(30,.lf (.aF .int 0)),(31,tI),(32,tI)],ae4,[]⟩
def ayz:aa (Nat×bL):=[(2,aeF)]
abbrev ajD:=((af×af×af×af×Int×(aa Int)×Int×Int×af)×((Int×Int×Int×Int×af)×c9×((aa Int)×(aa Int)×af)×(Int×Int×Int×Int×af)×af))
def LW(x:ajD):ah (ajD⊕(((af×af×af×Int×af)×(c9×((aa Int)×(aa Int)×af)×(Int×Int×Int×Int×af)×af))⊕Empty)):=letI L:=(⟨x.2.1.1,x.2.1.2.1,x.2.1.2.2.1,x.2.1.2.2.2.1⟩:aV);letI D:=x.2.2.2.2.1;letI O:=(x.2.1,x.2.2.1,x.2.2.2.1,D,());letI C:=x.1.2.2.2.2;letI E:=C.2.2.2.1;bif E<C.2.2.1 then xI C.2.1 E λT=>bif T<0 then xG (((),(),(),(),C.1,C.2.1,C.2.2.1,(W6 (E+1)),()),O)else (CW L E).bind λY=>(LV L x.2.2.1 Y.1 (⟨D.1,D.2.1,D.2.2.1,D.2.2.2.1⟩:aG)).bind λZ=>letI U:=W6 (T+Z);xG (((),(),(),(),(if U > C.1 then U else C.1),C.2.1,C.2.2.1,(W6 (E+1)),()),O)else av (((),(),(),C.1,()),(x.2.2.1,x.2.2.2.1,D,()))
def ayA:KY 76 (aS f352):=⟨0,lB 0 ayy ayz LW,lp [aiO,ayx]⟩
def R3(C:aV)(Y:c9)(D:dn)(E:aG):ah (Int):=(Fv Y).bind λy1=>bif (!y1)then some (-1)else (Fz C D).bind λy2=>bif (!y2)then some (-1)else (FO C E).bind λy3=>bif (!y3)then some (-1)else bh LW (((),(),(),(),0,D.last,(D.last.length:Int),0,()),((C.cH,C.aB,C.rows,C.aT,()),Y,(D.last,D.bx,()),(E.kind,E.ay,E.row,E.bR,()),())) λL=>letI U:=L.1.2.2.2.1;letI O:=U;letI Z:=bif O > 1000000 then some (-1)else some O;bif (L.2.2.2.1.1==1)then bif ((L.2.2.1.2.1.length:Int)==4)then xI L.2.2.1.2.1 (0:Int) λjU=>letI T:=W6 (jU+L.2.1.jH);bif (if T > U then T else O) > 1000000 then some (-1)else some (if T > U then T else O)else Z else Z
def ayB:=bT afa cq (sr R3) 76 [YD,YB,YP] [ayA] func352
def iN(C:ax)(D:aG):ah (Bool):=(LR C.config.aE C.bq D).bind λL=>bif (!L)then some false else (R3 C.config.aE C.config.ck C.ready D).bind λE=>bif (E != (-1))then some (E <= C.now)else some false
def FP:=aM [(true,.cN),(true,.Command)] bS (br iN) 32 [ajB,ayB] func232
def R4(D:kL)(C:eE)(E:Bool):ah (Int):=letI L:=bif (C.state==1)then bif C.idle >= D.sleep then some 7 else some 0 else some 0;letI O:=bif (C.state==0)then bif C.idle >= D.down then some 6 else L else L;letI T:=bif E then some 0 else bif (C.state==0)then bif C.idle >= D.sleep then some 8 else O else O;letI U:=bif E then bif (C.state==2)then some 9 else T else T;(Lk D).bind λY=>bif (!Y)then some 0 else (C1 C).bind λZ=>bif (!Z)then some 0 else bif E then bif (C.state==1)then some 7 else U else U
def ayC:=aM [(true,.nK),(true,.Power),(false,.bool)] cq (fS R4) 64 [RO,aiK] func344
def Aw(D:ax)(C:Int)(E:aG):ah (aG):=xI D.bq.aB C λL=>bif L.open_ then some (⟨4,C,0,0⟩:aG)else some E
def YQ:=aM [(true,.cN),(false,.int),(true,.Command)] EK (fS Aw) 17 [] func345
def vR(C:aa Int)(D:Int):ah (Bool):=(CZ C D).bind λE=>some (decide (E >= 0))
def YR:=aM zR bS (br vR) 9 [YH] func346
def ayD:enters Tryz.prog 418/\kA Tryz.prog 418 (cj Tryz.prog f418 1 []):=sq (qS 1 [] func418 trivial)
end Go.Proofs.YtnilicojgkhpnaaGreat
