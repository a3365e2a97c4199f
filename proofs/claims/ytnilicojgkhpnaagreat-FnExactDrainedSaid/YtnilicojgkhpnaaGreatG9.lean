/-
  Functions of the program as plain functions of contents, and that the code computes them. Nothing here is a claim.
-/
import Derived.Test.YtnilicojgkhpnaaGreatVZ
import Derived.Test.YtnilicojgkhpnaaGreatRows
import Derived.Test.YtnilicojgkhpnaaGreatG1
import Derived.Test.YtnilicojgkhpnaaGreatG2
import Derived.Test.YtnilicojgkhpnaaGreatG3
import Derived.Test.YtnilicojgkhpnaaGreatG4
import Derived.Test.YtnilicojgkhpnaaGreatG5
import Derived.Test.YtnilicojgkhpnaaGreatG6
import Derived.Test.YtnilicojgkhpnaaGreatG7
import Derived.Test.YtnilicojgkhpnaaGreatG8
namespace Go.Proofs.YtnilicojgkhpnaaGreat
set_option linter.defProp false
open Go.RowKit Go.Proofs.Tryz
set_option linter.unusedVariables false
set_option maxRecDepth 100000
def FG(C:gB)(D:Int):ah (gB):=(CS C).bind λE=>bif (!E)then some C else bif D >= C.high then some (⟨true,C.low,C.high⟩:gB)else bif D <= C.low then some (⟨false,C.low,C.high⟩:gB)else some C
def axZ:=aM [(true,.kN),(false,.int)] [(true,.kN,0)] (br FG) 22 [RB] func74
abbrev ajd:=((Bool×Int×(aa bA)×Int×Int×af)×(af))
def LD(x:ajd):ah (ajd⊕(((Int×af)×(af))⊕Empty)):=letI C:=x.1.2.2;letI D:=C.2.2.1;bif D<C.2.1 then xI C.1 D λE=>bif (E.write==x.1.1)then xG ((x.1.1,(W6 (x.1.2.1+1)),C.1,C.2.1,(W6 (D+1)),()),())else xG ((x.1.1,x.1.2.1,C.1,C.2.1,(W6 (D+1)),()),())else av ((x.1.2.1,()),())
def ax0:KY 22 (aR f75):=⟨0,lB 0 ⟨[(1,tB),(5,tI),(8,.lf (.aF .dw 0)),(9,tI),(10,tI)],[],[]⟩ [(2,vH)] LD,lp []⟩
def FH(C:aa bA)(D:Bool):ah (Int):=bk LD ((D,0,C,(C.length:Int),0,()),()) λE=>some E.1.1
def ax1:=bT [(false,(.sl .dw)),(false,.bool)] cq (br FH) 22 [] [ax0] func75
def FI(C:eC)(E:Bool):ah (eC):=letI D:=W6 (C.idle+1);(CY C).bind λL=>bif (!L)then some C else bif E then some (⟨C.state,C.since,0⟩:eC)else some (⟨C.state,C.since,(if 1000000<D then 1000000 else D)⟩:eC)
def ax2:=aM [(true,.Power),(false,.bool)] [(true,.Power,0)] (br FI) 18 [RN] func76
abbrev aje:=((af×(aa Int)×Int×Int×af)×((aa Int)×af))
def LF(x:aje):ah (aje⊕(((af×af)×((aa Int)×af))⊕Empty)):=letI C:=x.1.2.2.2.1;letI D:=((),x.1.2.1,x.1.2.2.1,(W6 (C+1)),());bif C<x.1.2.2.1 then xI x.1.2.1 C λE=>bif E >= 4 then bif bO (x.2.1.length+([C]:aa Int).length)then xG (D,((x.2.1++([C]:aa Int)),()))else none else xG (D,(x.2.1,()))else av (((),()),(x.2.1,()))
def ax3:KY 26 (aR f225):=⟨0,lB 0 ⟨[(3,.lf (.own 9)),(11,.lf (.aF .int 0)),(12,tI),(13,tI)],[(9,.sl .int 2)],[]⟩ [(2,⟨[(3,.lf (.own 9))],[(9,.sl .int 2)],[]⟩)] LF,lp []⟩
def FJ(C:de):ah ((aa Int)):=(Aq C).bind λD=>bif (!D)then some ([])else bk LF (((),C.aH,(C.aH.length:Int),0,()),(([]:aa Int),())) λE=>some E.2.1
def YK:=bT Ch lK (bF FJ) 26 [Lt] [ax3] func225
def At(C:ax):ah (Bool):=bif (C.queue.length:Int) > 0 then some true else bif (C.pending.length:Int) > 0 then some true else (FJ C.aP).bind λD=>some ((D.length:Int) > 0)
def ajf:=aM qa bS (bF At) 20 [YK] func77
def LG(C:gI)(E:Bool):ah (gI×Bool):=(K8 C).bind λD=>bif (!E)then some (D,false)else bif (!C.waits)then some (D,false)else (Fi C.next).bind λL=>some ((⟨L,D.next,false⟩:gI),true)
def ax4:=aM [(true,.jJ),(false,.bool)] [(true,.jJ,2),(false,.bool,0)] (br LG) 23 [aic,aib] func78
def x6(C:kZ)(D:Int):ah (kZ×Int):=letI E:=some (C,(-1));(cA C.every 1 100000).bind λL=>bif (!L)then E else (cA C.wait 1 C.every).bind λO=>bif (!O)then E else bif D<1 then E else (cA C.next 0 (W6 (D-1))).bind λT=>bif (!T)then E else bif (W6 (C.wait-1)) > 0 then some ((⟨C.next,C.every,(W6 (C.wait-1))⟩:kZ),(-1))else if D=0 then none else some ((⟨((W6 (C.next+1)).tmod D),C.every,C.every⟩:kZ),C.next)
def ax5:=aM [(true,.nM),(false,.int)] [(true,.nM,0),(false,.int,0)] (br x6) 52 [en] func80
abbrev ajg:=((Int×Int×Int×Int×af)×(af))
def ajh(x:ajg):ah (ajg⊕(((Int×af)×(af))⊕Empty)):=letI E:=x.1.2.1;letI C:=x.1.2.2;letI O:=bits .xor .i64 C.1 x.1.1;letI L:=W6 (C.2.1+1);letI D:=W6 (x.1.1*2 ^ (min (1:Int).toNat IntKind.i64.bits));bif C.2.1<4 then if C.2.1<0 then none else bif ((bits .and .i64 (E.fdiv (2 ^ (min C.2.1.toNat IntKind.i64.bits))) 1)==1)then bif D > 15 then xG (((bits .xor .i64 D 19),E,O,L,()),())else xG ((D,E,O,L,()),())else bif D > 15 then xG (((bits .xor .i64 D 19),E,C.1,L,()),())else xG ((D,E,C.1,L,()),())else av ((C.1,()),())
def ax6:KY 34 (aR f338):=⟨0,lB 0 Xu [(2,vH)] ajh,lp []⟩
def jo(C D:Int):ah (Int):=(CU C).bind λE=>bif (!E)then some (-1)else (CU D).bind λL=>bif (!L)then some (-1)else bk ajh ((C,D,0,0,()),()) λO=>some O.1.1
def LH:=bT EH cq (br jo) 34 [YE] [ax6] func338
abbrev aji:=((Int×Int×Int×af)×(af))
def ajj(x:aji):ah (aji⊕(((Int×af)×(af))⊕Empty)):=bif x.1.2.1 > 0 then (jo x.1.2.2.1 x.1.1).bind λC=>xG ((x.1.1,(W6 (x.1.2.1-1)),C,()),())else av ((x.1.2.2.1,()),())
def ax7:KY 22 (aR f416):=⟨0,lB 0 ⟨[(0,tI),(1,tI),(5,tI)],[],[]⟩ [(2,vH)] ajj,lp [LH]⟩
def LI(C D:Int):ah (Int):=(CU C).bind λE=>bif (!E)then some (-1)else (cA D 0 1000).bind λL=>bif (!L)then some (-1)else bk ajj ((C,D,1,()),()) λO=>some O.1.1
def ajk:=bT EH cq (br LI) 22 [en,YE] [ax7] func416
abbrev ajl:=(((aa Int)×af×Int×Int×Int×(aa Int)×Int×Int×af)×((aa Int)×af))
def C0(x:ajl):ah (ajl⊕((((aa Int)×af×Int×Int×af)×((aa Int)×af))⊕Empty)):=letI C:=x.1.2.2;letI D:=C.2.2;letI E:=D.2.2.2.1;bif E<D.2.2.1 then xI D.2.1 E λL=>xL x.2.1 C.1 λO=>(LI 2 (W6 (E*C.1))).bind λT=>(jo L T).bind λU=>xL x.2.1 C.1 λY=>xG ((x.1.1,(),C.1,C.2.1,D.1,D.2.1,D.2.2.1,(W6 (E+1)),()),((x.2.1.set C.1.toNat (bits .xor .i64 O U)),()))else av ((x.1.1,(),C.2.1,D.1,()),(x.2.1,()))
def ax8:KY 38 (qS (aR f336) 0):=⟨2,lB 2 ⟨[(0,.lf (.aF .int 0)),(3,.lf (.own 10)),(4,tI),(12,tI),(13,tI),(16,.lf (.aF .int 0)),(17,tI),(18,tI)],[(10,.sl .int 2)],[]⟩ [(4,aeE)] C0,lp [LH,ajk]⟩
abbrev ajm:=(((aa Int)×af×Int×Int×af)×((aa Int)×af))
def FK(x:ajm):ah (ajm⊕(((af×af)×((aa Int)×af))⊕Empty)):=letI C:=x.1.2.2;bif C.2.1<C.1 then bk C0 ((x.1.1,(),C.2.1,C.1,C.2.1,x.1.1,(x.1.1.length:Int),0,()),(x.2.1,())) λD=>xG ((D.1.1,(),D.1.2.2.1,(W6 (D.1.2.2.2.1+1)),()),(D.2.1,()))else av (((),()),(x.2.1,()))
def ax9:KY 38 (aR f336):=⟨0,lB 0 aeE [(2,⟨[(3,.lf (.own 10))],[(10,.sl .int 2)],[]⟩)] FK,lq [] [ax8]⟩
def Au(D:aa Int):ah ((aa Int)):=letI C:=(3:Int);(vR D 11).bind λE=>bif (!E)then some ([])else if 0 <= C/\C <= 3/\C<1073741824 then bk FK ((D,(),((List.replicate C.toNat (0:Int)).length:Int),0,()),((List.replicate C.toNat (0:Int)),())) λL=>some L.2.1 else none
def YL:=bT nh lK (bF Au) 38 [Ll] [ax9] func336
def RQ(D:aa Int):ah (Bool):=(Au D).bind λC=>bif jt C then none else xL C (0:Int) λE=>bif (E==0)then xL C (1:Int) λL=>bif (L==0)then xL C (2:Int) λO=>some (O==0)else some false else some false
def aya:=aM nh bS (bF RQ) 26 [YL] func337
abbrev ajn:=((Int×Int×af)×(af))
def ajo(x:ajn):ah (ajn⊕(((Int×af)×(af))⊕(((af)×(af))⊕Empty))):=bif x.1.2.1 <= 15 then (jo x.1.1 x.1.2.1).bind λC=>bif (C==1)then av ((x.1.2.1,()),())else xG ((x.1.1,(W6 (x.1.2.1+1)),()),())else aQ ((),())
def ayb:KY 13 (aR f339):=⟨0,lB 0 afg [(1,⟨[(2,tI)],[],[]⟩),(2,fq)] ajo,lp [LH]⟩
def C1(C:Int):ah (Int):=bE ajo ((C,1,()),()) (λD=>some D.1.1) λE=>some (-1)
def ajp:=bT lM cq (bF C1) 13 [] [ayb] func339
abbrev ajq:=((Int×Int×af)×(af))
def ajr(x:ajq):ah (ajq⊕(((Int×af)×(af))⊕(((af)×(af))⊕Empty))):=bif x.1.2.1<15 then (LI 2 x.1.2.1).bind λC=>bif (C==x.1.1)then av ((x.1.2.1,()),())else xG ((x.1.1,(W6 (x.1.2.1+1)),()),())else aQ ((),())
def ayc:KY 13 (aR f340):=⟨0,lB 0 afg [(1,⟨[(2,tI)],[],[]⟩),(2,fq)] ajr,lp [ajk]⟩
def RR(C:Int):ah (Int):=bE ajr ((C,0,()),()) (λD=>some D.1.1) λE=>some (-1)
def ayd:=bT lM cq (bF RR) 13 [] [ayc] func340
def LJ(L:aa Int):ah ((aa Int)×Int×Int):=letI C:=xA L;letI O:=some (C,2,(-1));(Au L).bind λE=>bif jt E then none else bif xZ L then (RQ L).bind λU=>bif U then some (C,0,(-1))else xL E (0:Int) λY=>bif (Y != 0)then xL E (1:Int) λZ=>bif (Z != 0)then xL E (1:Int) λvN=>xL E (0:Int) λoY=>(C1 oY).bind λiE=>(jo vN iE).bind λT=>(RR T).bind λD=>bif D<11 then xL E (1:Int) λCF=>xL E (2:Int) λKQ=>(jo CF T).bind λqe=>bif (qe==KQ)then xC C D (if h26:D.toNat<C.length then (let vJ:=C[D.toNat]'h26;xL E (0:Int) λvL=>xC C D (if h32:D.toNat<C.length then (let e33:=C[D.toNat]'h32;some ((C.set D.toNat (bits .xor .i64 vJ vL)),1,D))else none))else none)else O else O else O else O else none
def ajs:=aM nh [(false,(.sl .int),2),(false,.int,0),(false,.int,0)] (bF LJ) 64 [YL,aya,LH,ajp,ayd] func228
abbrev ajt:=((Int×(aa Int)×Int×Int×af)×(af))
def LK(x:ajt):ah (ajt⊕(((Int×af)×(af))⊕Empty)):=letI C:=x.1.2.2.2.1;bif C<x.1.2.2.1 then xI x.1.2.1 C λD=>if (W6 (4*C))<0 then none else xG (((bits .or .i64 x.1.1 (W6 (D*2 ^ (min (W6 (4*C)).toNat IntKind.i64.bits)))),x.1.2.1,x.1.2.2.1,(W6 (C+1)),()),())else av ((x.1.1,()),())
def aye:KY 25 (aR f341):=⟨0,lB 0 ⟨[(4,tI),(10,.lf (.aF .int 0)),(11,tI),(12,tI)],[],[]⟩ [(2,kE)] LK,lp []⟩
def RS(C:aa Int):ah (Int×Bool):=(vR C 8).bind λD=>bif (!D)then some (0,false)else bk LK ((0,C,(C.length:Int),0,()),()) λE=>some (E.1.1,true)
def ayf:=bT nh [(false,.int,0),(false,.bool,0)] (bF RS) 25 [Ll] [aye] func341
def RT(D:aa Int):ah ((aa Int)):=letI C:=(D.length:Int);letI E:=(D.take C.toNat).drop (3:Int).toNat;(vR D 11).bind λL=>bif (!L)then some ([])else if 0 <= (3:Int)/\3 <= C/\C <= C then bif xZ E then some (xA E)else none else none
def ayg:=aM nh lK (bF RT) 10 [Ll] func342
def RU(D:aa Int):ah (Int×Int×Int):=(LJ D).bind λC=>bif (C.2.1==2)then some (0,C.2.1,C.2.2)else (RT C.1).bind λE=>(RS E).bind λL=>some (L.1,C.2.1,C.2.2)
def ayh:=aM nh [(false,.int,0),(false,.int,0),(false,.int,0)] (bF RU) 29 [ajs,ayf,ayg] func229
def LL(C:aa bU):ah ((aa bU)):=bif xZ C then some (xA C)else none
def ayi:=aM O1 [(false,(.sl .eo),2)] (bF LL) 6 [] func343
abbrev aju:=((Int×Int×af×af×Int×Int×af)×((aa bU)×af))
def LM(x:aju):ah (aju⊕(((af×Bool×af)×((aa bU)×af))⊕(((Int×Int×af×af)×((aa bU)×af))⊕Empty))):=letI C:=x.1.2.2.2.2;letI E:=xG ((x.1.1,x.1.2.1,(),(),C.1,(W6 (C.2.1+1)),()),(x.2.1,()));bif C.2.1<C.1 then xL x.2.1 C.2.1 λD=>letI L:=W6 (D.times+1);bif (D.line==x.1.1)then bif (D.code==x.1.2.1)then xL x.2.1 C.2.1 λO=>av (((),true,()),((x.2.1.set C.2.1.toNat (⟨O.line,O.code,(if 999<L then 999 else L)⟩:bU)),()))else E else E else aQ ((x.1.1,x.1.2.1,(),()),(x.2.1,()))
def ayj:KY 69 (aR f230):=⟨0,lB 0 aez [(1,aeU),(2,aeR)] LM,lp []⟩
abbrev ajv:=((Int×Int×af×af×Int×Int×af)×((aa bU)×af))
def YM(x:ajv):ah (ajv⊕(((af×Bool×af)×((aa bU)×af))⊕(((Int×Int×af×af)×((aa bU)×af))⊕Empty))):=letI C:=x.1.2.2.2.2;letI E:=xG ((x.1.1,x.1.2.1,(),(),C.1,(W6 (C.2.1+1)),()),(x.2.1,()));bif C.2.1<C.1 then xL x.2.1 C.2.1 λD=>letI L:=W6 (D.times+1);bif (D.line==x.1.1)then bif (D.code==x.1.2.1)then xL x.2.1 C.2.1 λO=>av (((),true,()),((x.2.1.set C.2.1.toNat (⟨O.line,O.code,(if 999<L then 999 else L)⟩:bU)),()))else E else E else aQ ((x.1.1,x.1.2.1,(),()),(x.2.1,()))
def ayk:KY 69 (aR f230):=⟨0,lB 0 aez [(1,aeU),(2,aeR)] YM,lp []⟩
def RX(x0:aa bU)(x1 U:Int):ah ((aa bU)×Bool):=(LL x0).bind λY=>letI Z:=some (Y,false);letI u4:=((x1,U,(),(),(Y.length:Int),0,()),(Y,()));(Lz x0).bind λy2=>bif (!y2)then Z else (cA x1 0 1023).bind λy3=>bif (!y3)then Z else bif (U != 1)then bif (U != 2)then Z else bE LM u4 (λjd=>some (jd.2.1,jd.1.2.1)) λC=>letI E:=(C.2.1.length:Int);letI O:=([(⟨C.1.1,C.1.2.1,1⟩:bU)]:aa bU);bif (E==6)then if 0 <= (1:Int)/\1 <= E/\E <= E then (LL ((C.2.1.take (E.toNat)).drop ((1:Int).toNat))).bind λgD=>bif bO (gD.length+O.length)then some ((gD++O),true)else none else none else bif bO (C.2.1.length+O.length)then some ((C.2.1++O),true)else none else bE YM u4 (λRY=>some (RY.2.1,RY.1.2.1)) λD=>letI L:=(D.2.1.length:Int);letI T:=([(⟨D.1.1,D.1.2.1,1⟩:bU)]:aa bU);bif (L==6)then if 0 <= (1:Int)/\1 <= L/\L <= L then (LL ((D.2.1.take (L.toNat)).drop ((1:Int).toNat))).bind λjV=>bif bO (jV.length+T.length)then some ((jV++T),true)else none else none else bif bO (D.2.1.length+T.length)then some ((D.2.1++T),true)else none
def ayl:=bT Xz [(false,(.sl .eo),2),(false,.bool,0)] (fS RX) 69 [en,aja,ayi] [ayj,ayk] func230
def x7(C:ax)(E D:Int):ah ((af)×(ax×af)):=bif (D != 0)then (RX C.errors E D).bind λL=>some ((),({C with errors:=L.1},()))else some ((),(C,()))
def ajw:=xN afe [] (fS x7) 21 [ayl] func83
def C2(C:Int)(D:Bool)(E:Int):ah (Bool):=bif (!D)then some (C==0)else (cA C 0 (W6 (E-1))).bind λL=>some L
def aym:=aM [(false,.int),(false,.bool),(false,.int)] bS (fS C2) 15 [en] func465
def RZ(C:Int):ah (Bool):=some (C==1)
def ayn:=aM lM bS (bF RZ) 5 [] func466
def R0(C:Int):ah (Bool):=bif (C==2)then some true else some (C==3)
def ayo:=aM lM bS (bF R0) 9 [] func467
def YN(C:aG)(D E L:Int):ah (Bool):=(cA C.kind 1 9).bind λO=>bif O then (x5 C.kind).bind λT=>(C2 C.ay T D).bind λU=>bif U then (RZ C.kind).bind λY=>(C2 C.row Y E).bind λZ=>bif Z then (R0 C.kind).bind λy6=>(C2 C.bR y6 L).bind λy7=>some y7 else some false else some false else some false
def ayp:=aM [(true,.Command),(false,.int),(false,.int),(false,.int)] bS (sv YN) 39 [en,RE,aym,ayn,ayo] func456
def FL(C:aU)(D:aG):ah (Bool):=(sy C).bind λE=>bif E then (n9 C).bind λL=>(YN D L C.rows C.aT).bind λO=>some O else some false
def YO:=aM XJ bS (br FL) 17 [qX,xY,ayp] func426
def LN(T:aU)(D:cy)(C:aG):ah (Bool):=letI E:=D.aZ==0;letI U:=bif E then xI D.aB C.ay λZ=>some (!Z.open_)else some false;letI L:=bif E then xI D.aB C.ay λe6=>some e6.open_ else some false;letI O:=bif (C.kind==6)then some E else bif (C.kind==8)then bif E then (Ao D).bind λy7=>some ((y7.length:Int)==0)else some false else bif (C.kind==7)then some (D.aZ==1)else some (D.aZ==2);letI Y:=bif (C.kind==2)then bif (C.kind==2)then L else O else bif (C.kind==3)then bif (C.kind==3)then L else O else bif (C.kind==4)then L else O;(Li T D).bind λy1=>bif (!y1)then some false else (FL T C).bind λy2=>bif (!y2)then some false else bif (C.kind==1)then bif (C.kind==1)then U else Y else bif (C.kind==5)then U else Y
def ajx:=aM [(true,.fe),(true,.iI),(true,.Command)] bS (fS LN) 75 [aiJ,RD,YO] func351
def R1(C:c9)(D E:Int):ah (Int):=(let T:Bool -> ah (Int):=λL=>(let O:Bool -> ah (Int):=λj2=>bif j2 then some C.jF else (let U:Bool -> ah (Int):=λj3=>bif j3 then some C.gH else (let Y:Bool -> ah (Int):=λj4=>bif j4 then some (W6 (C.gH+C.rp))else (let Z:Bool -> ah (Int):=λj5=>bif j5 then some C.ji else (let k15:Bool -> ah (Int):=λj6=>bif j6 then some (W6 (C.ji+C.rp))else (let k14:Bool -> ah (Int):=λj7=>bif j7 then some C.wr else (let LO:Bool -> ah (Int):=λj8=>bif j8 then some (W6 (C.wr+C.rp))else (let k12:Bool -> ah (Int):=λj9=>bif j9 then some C.rp else (let K1:Bool -> ah (Int):=λCH=>bif CH then some C.mN else some 0;bif (D==5)then (K1 L)else (K1 false));bif (D==4)then (k12 L)else (k12 false));bif (D==3)then (LO L)else (LO false));bif (D==3)then (k14 (E==4))else (k14 false));bif (D==2)then (k15 L)else (k15 false));bif (D==2)then (Z (E==4))else (Z false));bif (D==1)then (Y L)else (Y false));bif (D==1)then (U (E==4))else (U false));bif (D==1)then bif (E==2)then (O true)else (O (E==3))else (O false));bif (E==1)then (T true)else (T (E==5)))
def ajy:=aM [(true,.jI),(false,.int),(false,.int)] cq (fS R1) 103 [] func459
def ayq:enters Tryz.prog 468/\kA Tryz.prog 468 (ci Tryz.prog f468 1 []):=qU 1 [] func468 trivial
def R2(C:c9)(D E:Int)(L:Bool):ah (Int):=bif (D==7)then some C.xp else bif (D==9)then some C.xs else (let U:Bool -> ah (Int):=λj1=>bif j1 then (let Y:Int -> ah (Int):=λj2=>some j2;bif L then (Y C.jG)else (Y C.mI))else (let O:Bool -> ah (Int):=λj4=>bif j4 then (let Z:Int -> ah (Int):=λj5=>some j5;bif L then (Z C.mK)else (Z C.mJ))else (let tW:Bool -> ah (Int):=λj7=>bif j7 then (let k9:Int -> ah (Int):=λj8=>some j8;bif L then (k9 C.mM)else (k9 C.mL))else (let Ac:Bool -> ah (Int):=λCH=>bif CH then some C.pH else (let tX:Bool -> ah (Int):=λYc=>bif Yc then some C.jG else (let Ad:Bool -> ah (Int):=λKB=>bif KB then some C.ji else (let KO:Bool -> ah (Int):=λCI=>bif CI then some C.wr else bif (E==8)then (R1 C D 1).bind λjz=>some jz else (let T:Bool -> ah (Int):=λE4=>bif E4 then some C.nJ else some 0;letI u0:=bif (D==8)then (T (E==9))else (T false);bif (D==6)then bif (E==7)then (T true)else u0 else u0);bif (D==3)then (KO (E==6))else (KO false));bif (D==2)then (Ad (E==6))else (Ad false));bif (D==5)then (tX (E==5))else (tX false));bif (D==2)then (Ac (E==3))else (Ac false));bif (D==3)then (tW (E==2))else (tW false));letI u1:=bif (D==3)then (O (E==3))else (O false);bif (D==2)then bif (E==2)then (O true)else u1 else u1);bif (D==1)then (U (E==1))else (U false))
def ayr:=aM ae5 cq (sv R2) 126 [ajy,⟨468,.i _,ayq⟩] func457
def LP(C:aU)(D:Int):ah (Int):=(n9 C).bind λE=>(cA D 0 (W6 (E-1))).bind λL=>bif (!L)then some (-1)else if C.aB=0 then none else some (W6 (D.tdiv C.aB))
def ays:=aM Iz cq (br LP) 15 [en,qX] func458
def LQ(U:aU)(O:c9)(C D:aG):ah (Int):=letI Y:=R1 O C.kind D.kind;letI Z:=R2 O C.kind D.kind false;(x5 C.kind).bind λy1=>bif y1 then (x5 D.kind).bind λT=>bif T then (LP U C.ay).bind λy3=>(LP U D.ay).bind λy4=>(R2 O C.kind D.kind (y3==y4)).bind λE=>letI u1:=some (if E > 1 then E else 1);bif T then bif (C.ay==D.ay)then Y.bind λy6=>some (if y6 > (if E > 1 then E else 1)then y6 else (if E > 1 then E else 1))else u1 else u1 else Z.bind λL=>letI u2:=some (if L > 1 then L else 1);bif T then bif (C.ay==D.ay)then Y.bind λy8=>some (if y8 > (if L > 1 then L else 1)then y8 else (if L > 1 then L else 1))else u2 else u2 else Z.bind λy9=>some (if y9 > 1 then y9 else 1)
def ayt:=aM ae6 cq (sv LQ) 55 [RE,ayr,ays,ajy] func427
def ayu:bM:=⟨[(4,.aJ 4 0),(5,.aJ 5 0),(6,.aJ 6 0),(7,.aJ 7 0),(9,tI),(30,.lf (.aF .int 0)),(31,tI),(32,tI)],ae2,[]⟩
def ayv:aa (Nat×bM):=[(2,aeD)]
abbrev ajz:=((af×af×af×af×Int×(aa Int)×Int×Int×af)×((Int×Int×Int×Int×af)×c9×((aa Int)×(aa Int)×af)×(Int×Int×Int×Int×af)×af))
def LR(x:ajz):ah (ajz⊕(((af×af×af×Int×af)×(c9×((aa Int)×(aa Int)×af)×(Int×Int×Int×Int×af)×af))⊕Empty)):=letI L:=(⟨x.2.1.1,x.2.1.2.1,x.2.1.2.2.1,x.2.1.2.2.2.1⟩:aU);letI D:=x.2.2.2.2.1;letI O:=(x.2.1,x.2.2.1,x.2.2.2.1,D,());letI C:=x.1.2.2.2.2;letI E:=C.2.2.2.1;bif E<C.2.2.1 then xI C.2.1 E λT=>bif T<0 then xG (((),(),(),(),C.1,C.2.1,C.2.2.1,(W6 (E+1)),()),O)else (CT L E).bind λY=>(LQ L x.2.2.1 Y.1 (⟨D.1,D.2.1,D.2.2.1,D.2.2.2.1⟩:aG)).bind λZ=>letI U:=W6 (T+Z);xG (((),(),(),(),(if U > C.1 then U else C.1),C.2.1,C.2.2.1,(W6 (E+1)),()),O)else av (((),(),(),C.1,()),(x.2.2.1,x.2.2.2.1,D,()))
def ayw:KY 76 (aR f352):=⟨0,lB 0 ayu ayv LR,lp [aiK,ayt]⟩
def R3(C:aU)(Y:c9)(D:dn)(E:aG):ah (Int):=(Ft Y).bind λy1=>bif (!y1)then some (-1)else (Fx C D).bind λy2=>bif (!y2)then some (-1)else (FL C E).bind λy3=>bif (!y3)then some (-1)else bk LR (((),(),(),(),0,D.last,(D.last.length:Int),0,()),((C.cF,C.aB,C.rows,C.aT,()),Y,(D.last,D.bx,()),(E.kind,E.ay,E.row,E.bR,()),())) λL=>letI U:=L.1.2.2.2.1;letI O:=U;letI Z:=bif O > 1000000 then some (-1)else some O;bif (L.2.2.2.1.1==1)then bif ((L.2.2.1.2.1.length:Int)==4)then xI L.2.2.1.2.1 (0:Int) λjU=>letI T:=W6 (jU+L.2.1.jH);bif (if T > U then T else O) > 1000000 then some (-1)else some (if T > U then T else O)else Z else Z
def ayx:=bT ae7 cq (sv R3) 76 [YD,YB,YO] [ayw] func352
def iN(C:ax)(D:aG):ah (Bool):=(LN C.config.aE C.bq D).bind λL=>bif (!L)then some false else (R3 C.config.aE C.config.ck C.ready D).bind λE=>bif (E != (-1))then some (E <= C.now)else some false
def FM:=aM [(true,.cN),(true,.Command)] bS (br iN) 32 [ajx,ayx] func232
def R4(D:kL)(C:eC)(E:Bool):ah (Int):=letI L:=bif (C.state==1)then bif C.idle >= D.sleep then some 7 else some 0 else some 0;letI O:=bif (C.state==0)then bif C.idle >= D.down then some 6 else L else L;letI T:=bif E then some 0 else bif (C.state==0)then bif C.idle >= D.sleep then some 8 else O else O;letI U:=bif E then bif (C.state==2)then some 9 else T else T;(Lg D).bind λY=>bif (!Y)then some 0 else (CY C).bind λZ=>bif (!Z)then some 0 else bif E then bif (C.state==1)then some 7 else U else U
def ayy:=aM [(true,.nL),(true,.Power),(false,.bool)] cq (fS R4) 64 [RN,aiG] func344
def Av(D:ax)(C:Int)(E:aG):ah (aG):=xI D.bq.aB C λL=>bif L.open_ then some (⟨4,C,0,0⟩:aG)else some E
def YP:=aM [(true,.cN),(false,.int),(true,.Command)] EI (fS Av) 17 [] func345
def vS(C:aa Int)(D:Int):ah (Bool):=(CW C D).bind λE=>some (decide (E >= 0))
def YQ:=aM zP bS (br vS) 9 [YH] func346
def ayz:enters Tryz.prog 418/\kA Tryz.prog 418 (cj Tryz.prog f418 1 []):=su (qU 1 [] func418 trivial)
end Go.Proofs.YtnilicojgkhpnaaGreat
