/-
  Functions of the program as plain functions of contents, and that the code computes them. Nothing here is a claim.
-/
import Derived.Test.YtdfkhfiglknaoaaGreatVZ
import Derived.Test.YtdfkhfiglknaoaaGreatRows
import Derived.Test.YtdfkhfiglknaoaaGreatG1
import Derived.Test.YtdfkhfiglknaoaaGreatG2
import Derived.Test.YtdfkhfiglknaoaaGreatG3
import Derived.Test.YtdfkhfiglknaoaaGreatG4
import Derived.Test.YtdfkhfiglknaoaaGreatG5
import Derived.Test.YtdfkhfiglknaoaaGreatG6
namespace Go.Proofs.YtdfkhfiglknaoaaGreat
set_option linter.defProp false
open Go.RowKit Go.Proofs.Tryz
set_option linter.unusedVariables false
set_option maxRecDepth 100000
abbrev aiO:=((Int×Int×Int×Int×af)×(af))
def aiP(x:aiO):ah (aiO⊕(((Int×af)×(af))⊕Empty)):=letI C:=x.1.2;letI D:=C.2.2.1;letI E:=min (IntKind.u64.wrap D).toNat IntKind.i64.bits;bif D<4 then if (IntKind.u64.wrap D)<0 then none else bif ((bits .and .i64 (C.1.fdiv (2 ^ E)) 1)==1)then if (IntKind.u64.wrap D)<0 then none else xG ((x.1.1,C.1,(bits .xor .i64 C.2.1 (W6 (x.1.1*2 ^ E))),(W6 (D+1)),()),())else xG ((x.1.1,C.1,C.2.1,(W6 (D+1)),()),())else az ((C.2.1,()),())
def axA:KY 49 (bf f316):=⟨0,lB 0 Yf [(2,wW)] aiP,lp []⟩
abbrev aiQ:=((Int×Int×af)×(af))
def aiR(x:aiQ):ah (aiQ⊕(((Int×af)×(af))⊕Empty)):=letI C:=x.1.2.1;bif C >= 4 then if (IntKind.u64.wrap C)<0 then none else bif ((bits .and .i64 (x.1.1.fdiv (2 ^ (min (IntKind.u64.wrap C).toNat IntKind.i64.bits))) 1)==1)then if (IntKind.u64.wrap (W6 (C-4)))<0 then none else xG (((bits .xor .i64 x.1.1 (W6 ((19:Int)*2 ^ (min (IntKind.u64.wrap (W6 (C-4))).toNat IntKind.i64.bits)))),(W6 (C-1)),()),())else xG ((x.1.1,(W6 (C-1)),()),())else az ((x.1.1,()),())
def axB:KY 49 (bf f316):=⟨2,lB 2 ⟨[(5,tI),(7,tI)],[],[]⟩ [(4,wW)] aiR,lp []⟩
def vu(C D:Int):ah (Int):=(Bz C).bind λE=>bif (!E)then some (-1)else (Bz D).bind λI=>bif (!I)then some (-1)else bw aiP ((C,D,0,0,()),()) λO=>bw aiR ((O.1.1,6,()),()) λU=>some U.1.1
def Ml:=bZ A3 dS (bR vu) 49 [Sh] [axA,axB] func316
abbrev aiS:=((Int×Int×Int×Int×af)×(af))
def aiT(x:aiS):ah (aiS⊕(((Int×af)×(af))⊕Empty)):=bif x.1.2.2.2.1<x.1.2.1 then (vu x.1.2.2.1 x.1.1).bind λC=>xG ((x.1.1,x.1.2.1,C,(W6 (x.1.2.2.2.1+1)),()),())else az ((x.1.2.2.1,()),())
def axC:KY 24 (bf f315):=⟨0,lB 0 Yf [(2,wW)] aiT,lp [Ml]⟩
def G7(C D:Int):ah (Int):=(Bz C).bind λE=>bif (!E)then some (-1)else (cO D 0 1000).bind λI=>bif (!I)then some (-1)else bw aiT ((C,D,1,0,()),()) λO=>some O.1.1
def ZA:=bZ A3 dS (bR G7) 24 [fQ,Sh] [axC] func315
abbrev aiU:=(((aa Int)×af×Int×Int×Int×Int×af)×((aa Int)×af))
def G8(x:aiU):ah (aiU⊕((((aa Int)×af×Int×af)×((aa Int)×af))⊕Empty)):=letI C:=x.1.2.2.2;letI D:=C.2.2.1;bif D<3 then xL x.2.1 D λE=>xI x.1.1 x.1.2.2.1 λI=>(vu I C.1).bind λO=>xL x.2.1 D λY=>(vu C.1 C.2.1).bind λU=>xG ((x.1.1,(),x.1.2.2.1,U,C.2.1,(W6 (D+1)),()),((x.2.1.set D.toNat (bits .xor .i64 E O)),()))else az ((x.1.1,(),x.1.2.2.1,()),(x.2.1,()))
def axD:KY 43 (sZ (bf f313) 0):=⟨2,lB 2 ⟨[(0,.lf (.aI .int 0)),(3,.lf (.own 12)),(4,tI),(5,tI),(6,tI),(7,tI)],[(12,.sl .int 2)],[]⟩ [(4,afa)] G8,lp [Ml]⟩
abbrev aiV:=(((aa Int)×af×Int×af)×((aa Int)×af))
def Mn(x:aiV):ah (aiV⊕(((af×af)×((aa Int)×af))⊕Empty)):=bif x.1.2.2.1<(x.1.1.length:Int)then (G7 2 x.1.2.2.1).bind λD=>bw G8 ((x.1.1,(),x.1.2.2.1,1,D,0,()),(x.2.1,())) λC=>xG ((C.1.1,(),(W6 (C.1.2.2.1+1)),()),(C.2.1,()))else az (((),()),(x.2.1,()))
def axE:KY 43 (bf f313):=⟨0,lB 0 afa [(2,⟨[(3,.lf (.own 12))],[(12,.sl .int 2)],[]⟩)] Mn,lq [ZA] [axD]⟩
def Si(C:aa Int):ah ((aa Int)):=(xo C 11).bind λD=>bif (!D)then some ([]:aa Int)else if 0 <= (3:Int)/\(3:Int) <= 3/\(3:Int)<1073741824 then bw Mn ((C,(),0,()),((List.replicate (3:Int).toNat (0:Int)),())) λE=>some E.2.1 else none
def axF:=bZ pT mL (bN Si) 43 [Mk] [axE] func313
def G9(C:aa Int):ah (Bool):=xI C (0:Int) λD=>bif (D==0)then xI C (1:Int) λE=>bif (E==0)then xI C (2:Int) λI=>some (I==0)else some false else some false
def axG:=bB pT cy (bN G9) 19 [] func314
abbrev aiW:=((af×af×Int×af)×((aa Int)×(aa Int)×af))
def DX(x:aiW):ah (aiW⊕(((af×Int×Int×af)×((aa Int)×af))⊕(((af×af)×((aa Int)×af))⊕Empty))):=letI C:=x.2.2.1;letI D:=x.1.2.2.1;letI E:=xG (((),(),(W6 (D+1)),()),(x.2.1,C,()));bif D<11 then (G7 2 D).bind λI=>xL C (0:Int) λO=>bif (O != 0)then xL C (0:Int) λU=>xL C (1:Int) λY=>(vu U I).bind λiH=>bif (iH==Y)then xL C (1:Int) λxl=>xL C (2:Int) λDF=>(vu xl I).bind λxk=>bif (xk==DF)then xL x.2.1 D λLM=>xL C (0:Int) λua=>xL x.2.1 D λuc=>az (((),1,D,()),((x.2.1.set D.toNat (bits .xor .i64 LM ua)),()))else E else E else E else bx (((),()),(x.2.1,()))
def axH:KY 67 (bf f256):=⟨0,lB 0 ⟨[(5,.lf (.own 13)),(6,.lf (.own 1000000000117000)),(7,tI)],[(13,.sl .int 2),(1000000000117000,.sl .int 2)],[]⟩ [(1,⟨[(2,.lf (.own 13)),(3,tI),(4,tI)],[(13,.sl .int 2)],[]⟩),(2,⟨[(5,.lf (.own 13))],[(13,.sl .int 2)],[]⟩)] DX,lp [ZA,Ml]⟩
def Sj(C:aa Int):ah ((aa Int)×Int×Int):=(xo C 11).bind λI=>bif (!I)then some (([]:aa Int),2,(-1))else bif xZ C then (Si C).bind λE=>(G9 E).bind λO=>bif O then some ((xA C),0,(-1))else bU DX (((),(),0,()),((xA C),E,())) (λD=>some (D.2.1,D.1.2.1,D.1.2.2.1)) λU=>some (U.2.1,2,(-1))else none
def axI:=bZ pT [(false,(.sl .int),2),(false,.int,0),(false,.int,0)] (bN Sj) 67 [Mk,axF,axG] [axH] func256
abbrev aiX:=(((aa Int)×Int×Int×af)×(af))
def Mo(x:aiX):ah (aiX⊕(((Int×af)×(af))⊕Empty)):=letI C:=x.1.2.2.1;bif C<(x.1.1.length:Int)then xI x.1.1 C λD=>if (IntKind.u64.wrap (W6 (4*C)))<0 then none else xG ((x.1.1,(bits .or .i64 x.1.2.1 (W6 (D*2 ^ (min (IntKind.u64.wrap (W6 (4*C))).toNat IntKind.i64.bits)))),(W6 (C+1)),()),())else az ((x.1.2.1,()),())
def axJ:KY 26 (bf f257):=⟨0,lB 0 ⟨[(0,.lf (.aI .int 0)),(4,tI),(5,tI)],[],[]⟩ [(2,wX)] Mo,lp []⟩
def Sk(C:aa Int):ah (Int×Bool):=(xo C 8).bind λD=>bif (!D)then some (0,false)else bw Mo ((C,0,0,()),()) λE=>some (E.1.1,true)
def axK:=bZ pT [(false,.int,0),(false,.bool,0)] (bN Sk) 26 [Mk] [axJ] func257
def Sl(D:aa Int):ah ((aa Int)):=letI C:=(D.length:Int);letI E:=(D.take C.toNat).drop (3:Int).toNat;(xo D 11).bind λI=>bif (!I)then some ([]:aa Int)else if 0 <= (3:Int)/\3 <= C/\C <= C then bif xZ E then some (xA E)else none else none
def axL:=bB pT mL (bN Sl) 11 [Mk] func258
def Sn(D:aa Int):ah (Int×Int×Int):=(Sj D).bind λC=>bif (C.2.1==2)then some (0,C.2.1,C.2.2)else (Sl C.1).bind λE=>(Sk E).bind λI=>some (I.1,C.2.1,C.2.2)
def axM:=bB pT [(false,.int,0),(false,.int,0),(false,.int,0)] (bN Sn) 29 [axI,axK,axL] func211
abbrev aiY:=((af×af×Int×af×Int×af)×((aa Int)×(aa Int)×(aa Int)×af))
def aiZ(x:aiY):ah (aiY⊕(((af×Int×af×af)×((aa Int)×(aa Int)×af))⊕Empty)):=letI C:=x.2.2;letI D:=x.1.2.2.2.2.1;letI E:=W6 (D+1);bif D<(C.1.length:Int)then xL C.2.1 E λO=>xL C.1 D λU=>letI I:=C.2.1.set E.toNat (bits .xor .i64 O U);xL C.2.1 E λZg=>xL I D λY=>xL C.1 D λLz=>(G7 2 x.1.2.2.1).bind λZu=>(vu Lz Zu).bind λLZ=>xL I D λe42=>xG (((),(),x.1.2.2.1,(),E,()),(x.2.1,C.1,(I.set D.toNat (bits .xor .i64 Y LZ)),()))else az (((),x.1.2.2.1,(),()),(x.2.1,C.2.1,()))
def axN:KY 116 (sZ (bf f259) 0):=⟨2,lB 2 ⟨[(3,.lf (.own 18)),(4,.lf (.own 99004)),(5,tI),(6,.lf (.own 29)),(7,tI)],[(18,.sl .int 2),(99004,.sl .int 2),(29,.sl .int 2)],[]⟩ [(4,⟨[(3,.lf (.own 18)),(5,tI),(6,.lf (.own 29))],[(18,.sl .int 2),(29,.sl .int 2)],[]⟩)] aiZ,lp [ZA,Ml]⟩
abbrev ai0:=((af×af×Int×af)×((aa Int)×(aa Int)×af))
def ZB(x:ai0):ah (ai0⊕(((af×af×af)×((aa Int)×(aa Int)×af))⊕Empty)):=letI C:=W6 ((x.2.2.1.length:Int)+1);bif x.1.2.2.1<3 then if 0 <= C/\C <= C/\C<1073741824 then bw aiZ (((),(),x.1.2.2.1,(),0,()),(x.2.1,x.2.2.1,(List.replicate C.toNat (0:Int)),())) λD=>xG (((),(),(W6 (D.1.2.1+1)),()),(D.2.1,D.2.2.1,()))else none else az (((),(),()),(x.2.1,x.2.2.1,()))
def axO:KY 116 (bf f259):=⟨0,lB 0 ⟨[(3,.lf (.own 18)),(4,.lf (.own 99004)),(5,tI)],[(18,.sl .int 2),(99004,.sl .int 2)],[]⟩ [(2,⟨[(3,.lf (.own 18)),(4,.lf (.own 99004))],[(18,.sl .int 2),(99004,.sl .int 2)],[]⟩)] ZB,lq [] [axN]⟩
abbrev ai1:=((af×af×af×Int×Int×Int×af)×((aa Int)×(aa Int)×(aa Int)×af))
def He(x:ai1):ah (ai1⊕(((af×af×af×Int×af)×((aa Int)×(aa Int)×(aa Int)×af))⊕Empty)):=letI C:=x.2.2;letI D:=x.1.2.2.2;letI E:=D.2.2.1;letI I:=W6 ((W6 (D.1-3))+E);bif E<(C.1.length:Int)then xL C.2.1 I λO=>xL C.1 E λU=>(vu U D.2.1).bind λY=>xL C.2.1 I λe57=>xG (((),(),(),D.1,D.2.1,(W6 (E+1)),()),(x.2.1,C.1,(C.2.1.set I.toNat (bits .xor .i64 O Y)),()))else az (((),(),(),D.1,()),(x.2.1,C.1,C.2.1,()))
def axP:KY 116 (sZ (bf f259) 4):=⟨6,lB 6 ⟨[(3,.lf (.own 18)),(4,.lf (.own 99004)),(8,.lf (.own 66)),(9,tI),(10,tI),(11,tI)],ae0,[]⟩ [(8,ae1)] He,lp [Ml]⟩
abbrev ai2:=((af×af×af×Int×af)×((aa Int)×(aa Int)×(aa Int)×af))
def Hf(x:ai2):ah (ai2⊕(((af×af×af)×((aa Int)×(aa Int)×af))⊕Empty)):=letI D:=x.1.2.2.2.1;bif D >= 3 then xL x.2.2.2.1 D λE=>bw He (((),(),(),D,E,0,()),(x.2.1,x.2.2.1,x.2.2.2.1,())) λC=>xG (((),(),(),(W6 (C.1.2.2.2.1-1)),()),(C.2.1,C.2.2.1,C.2.2.2.1,()))else az (((),(),()),(x.2.1,x.2.2.2.1,()))
def axQ:KY 116 (bf f259):=⟨4,lB 4 ae1 [(6,⟨[(3,.lf (.own 18)),(8,.lf (.own 66))],[(18,.sl .int 2),(66,.sl .int 2)],[]⟩)] Hf,lq [] [axP]⟩
abbrev ai3:=((af×af×Int×af)×((aa Int)×(aa Int)×af))
def Mp(x:ai3):ah (ai3⊕(((af×af)×((aa Int)×af))⊕Empty)):=letI C:=x.1.2.2.1;bif C<3 then xL x.2.2.1 C λD=>xL x.2.1 C λE=>xG (((),(),(W6 (C+1)),()),((x.2.1.set C.toNat D),x.2.2.1,()))else az (((),()),(x.2.1,()))
def axR:KY 116 (bf f259):=⟨8,lB 8 ⟨[(3,.lf (.own 18)),(8,.lf (.own 66)),(13,tI)],[(18,.sl .int 2),(66,.sl .int 2)],[]⟩ [(10,⟨[(3,.lf (.own 18))],[(18,.sl .int 2)],[]⟩)] Mp,lp []⟩
def BB(E:aa Int):ah ((aa Int)):=letI C:=(3:Int);(xo E 8).bind λO=>bif (!O)then some ([]:aa Int)else if 0 <= C/\C <= 3/\C<1073741824 then bif bE ((List.replicate C.toNat (0:Int)).length+E.length)then bw ZB (((),(),1,()),(((List.replicate C.toNat (0:Int))++E),([1,1]:aa Int),())) λD=>bif xZ D.2.1 then bw Hf (((),(),(),(W6 (((xA D.2.1).length:Int)-1)),()),(D.2.1,D.2.2.1,(xA D.2.1),())) λI=>bw Mp (((),(),0,()),(I.2.1,I.2.2.1,())) λU=>some U.2.1 else none else none else none
def axS:=bZ pT mL (bN BB) 116 [Mk] [axO,axQ,axR] func259
abbrev ai4:=((Int×af×Int×af)×((aa Int)×af))
def Mq(x:ai4):ah (ai4⊕(((af×af)×((aa Int)×af))⊕Empty)):=letI C:=x.1.2.2.1;letI D:=az (((),()),(x.2.1,()));letI E:=([(bits .and .i64 (x.1.1.fdiv (2 ^ (min (IntKind.u64.wrap (W6 (4*C))).toNat IntKind.i64.bits))) 15)]:aa Int);bif C<8 then (L5 x.1.1).bind λI=>bif I then if (IntKind.u64.wrap (W6 (4*C)))<0 then none else bif bE (x.2.1.length+E.length)then xG ((x.1.1,(),(W6 (C+1)),()),((x.2.1++E),()))else none else D else D
def axT:KY 24 (bf f260):=⟨0,lB 0 ⟨[(0,tI),(3,.lf (.own 5)),(4,tI)],[(5,.sl .int 2)],[]⟩ [(2,Yh)] Mq,lp [aiC]⟩
def So(C:Int):ah ((aa Int)):=bw Mq ((C,(),0,()),(([]:aa Int),())) λD=>some D.2.1
def axU:=bZ mb mL (bN So) 24 [] [axT] func260
def Hg(C:Int):ah ((aa Int)):=(So C).bind λD=>(BB D).bind λE=>some E
def ai5:=bB mb mL (bN Hg) 6 [axS,axU] func212
def Hh(C:cB):ah (Bool):=letI D:=(cO C.times 1 999).bind λE=>some E;(cO C.line 0 1023).bind λI=>bif I then bif (C.code==1)then D else bif (C.code==2)then D else some false else some false
def ai6:=bB [(true,.iD)] cy (bN Hh) 21 [fQ] func262
abbrev ai7:=(((aa cB)×Int×Int×Int×af)×(af))
def Mr(x:ai7):ah (ai7⊕(((Int×af)×(af))⊕(((af)×(af))⊕Empty))):=letI C:=x.1.2.2.2.1;letI D:=xG ((x.1.1,x.1.2.1,x.1.2.2.1,(W6 (C+1)),()),());bif C<(x.1.1.length:Int)then xI x.1.1 C λE=>bif (E.line==x.1.2.1)then xI x.1.1 C λI=>bif (I.code==x.1.2.2.1)then az ((C,()),())else D else D else bx ((),())
def axV:KY 31 (bf f263):=⟨0,lB 0 ⟨[(0,.lf (.aI .iD 0)),(1,tI),(2,tI),(7,tI)],[],[]⟩ [(1,J9),(2,ic)] Mr,lp []⟩
def Ms(C:aa cB)(D E:Int):ah (Int):=bU Mr ((C,D,E,0,()),()) (λI=>some I.1.1) λO=>some (-1)
def ai8:=bZ Yi dS (fP Ms) 31 [] [axV] func263
abbrev ai9:=(((aa cB)×Int×af)×(af))
def Mt(x:ai9):ah (ai9⊕(((Bool×af)×(af))⊕(((af)×(af))⊕Empty))):=letI C:=x.1.2.1;bif C<(x.1.1.length:Int)then xI x.1.1 C λD=>(Hh D).bind λE=>bif (!E)then az ((false,()),())else xI x.1.1 C λI=>xI x.1.1 C λO=>(Ms x.1.1 I.line O.code).bind λU=>bif (U != C)then az ((false,()),())else xG ((x.1.1,(W6 (C+1)),()),())else bx ((),())
def axW:KY 35 (bf f261):=⟨0,lB 0 ⟨[(0,.lf (.aI .iD 0)),(3,tI)],[],[]⟩ [(1,qO),(2,ic)] Mt,lp [ai6,ai8]⟩
def Sq(C:aa cB):ah (Bool):=bif (C.length:Int) > 6 then some false else bU Mt ((C,0,()),()) (λD=>some D.1.1) λE=>some true
def axX:=bZ [(false,(.sl .iD))] cy (bN Sq) 35 [] [axW] func261
def Sr(I:aa cB)(U Y:Int):ah ((aa cB)×Bool):=letI C:=xA I;letI E:=(C.length:Int);letI O:=([(⟨U,Y,1⟩:cB)]:aa cB);letI u0:=(C.take (E.toNat)).drop ((1:Int).toNat);bif xZ I then (Sq I).bind λy1=>bif (!y1)then some (C,false)else (Hh (⟨U,Y,1⟩:cB)).bind λy2=>bif (!y2)then some (C,false)else (Ms I U Y).bind λD=>bif D >= 0 then xC C D (if h5:D.toNat<C.length then (let e6:=C[D.toNat]'h5;letI u4:=W6 (e6.times+1);xC C D (if h8:D.toNat<C.length then (let e9:=C[D.toNat]'h8;some ((C.set D.toNat (⟨e9.line,e9.code,(if 999<u4 then 999 else u4)⟩:cB)),true))else none))else none)else bif E >= 6 then if 0 <= (1:Int)/\1 <= E/\E <= E then bif xZ u0 then bif bE ((xA u0).length+O.length)then some (((xA u0)++O),true)else none else none else none else bif bE (C.length+O.length)then some ((C++O),true)else none else none
def axY:=bB Yi [(false,(.sl .iD),2),(false,.bool,0)] (fP Sr) 55 [axX,ai6,ai8] func213
def DY(C:ax)(E D:Int):ah ((af)×(ax×af)):=bif (D != 0)then (Sr C.errors E D).bind λI=>some ((),({C with errors:=I.1},()))else some ((),(C,()))
def aja:=kQ Yl [] (fP DY) 21 [axY] func160
def Ss(I:sv)(C:fK)(D:Bool):ah (Int):=letI Y:=decide (C.idle >= I.sleep);(let k4:Bool -> ah (Int):=λj3=>bif j3 then some 0 else (let E:Bool -> ah (Int):=λj7=>bif j7 then some 7 else (let zp:Bool -> ah (Int):=λj8=>bif j8 then some 9 else (let O:Bool -> ah (Int):=λj9=>bif j9 then some 8 else (let U:Bool -> ah (Int):=λwZ=>bif wZ then some 6 else some 0;letI u0:=U (decide (C.idle >= I.down));bif (!D)then bif (C.state==0)then u0 else (U false)else (U false));letI u1:=O Y;bif (!D)then bif (C.state==0)then u1 else (O false)else (O false));bif D then (zp (C.state==2))else (zp false));letI u2:=E Y;(let k6:Bool -> ah (Int):=λj5=>bif j5 then (E j5)else bif (!D)then bif (C.state==1)then u2 else (E false)else (E false);bif D then (k6 (C.state==1))else (k6 false)));(Kn I).bind λy1=>bif (!y1)then (k4 true)else (zC C).bind λy2=>(k4 (!y2)))
def axZ:=bB [(true,.uF),(true,.Power),(false,.bool)] dS (fP Ss) 73 [af6,Zx] func214
abbrev ajb:=((af×af×Int×af)×(((aa di)×Int×af)×(aa Int)×af))
def Hi(x:ajb):ah (ajb⊕(((af×af)×((aa Int)×af))⊕Empty)):=letI C:=x.1.2.2.1;letI D:=((),(),(W6 (C+1)),());bif C<(x.2.1.1.length:Int)then xI x.2.1.1 C λE=>bif E.open_ then bif bE (x.2.2.1.length+([C]:aa Int).length)then xG (D,(x.2.1,(x.2.2.1++([C]:aa Int)),()))else none else xG (D,(x.2.1,x.2.2.1,()))else az (((),()),(x.2.2.1,()))
def ax0:KY 24 (bf f277):=⟨0,lB 0 ⟨afQ,[(1,.aB Dj),(5,.sl .int 2)],[]⟩ [(2,Yh)] Hi,lp []⟩
def Mw(C:bX):ah ((aa Int)):=bw Hi (((),(),0,()),((C.aA,C.aR,()),([]:aa Int),())) λD=>some D.2.1
def ajc:=bZ [(true,.ji)] mL (bN Mw) 24 [] [ax0] func277
def Su(D:bX)(C:aF):ah (Bool):=letI E:=D.aR==0;letI U:=bif E then xI D.aA C.ay λe2=>some (!e2.open_)else some false;letI I:=bif E then xI D.aA C.ay λe4=>some e4.open_ else some false;letI O:=bif (C.kind==6)then some E else bif (C.kind==8)then bif E then (Mw D).bind λy5=>some ((y5.length:Int)==0)else some false else bif (C.kind==7)then some (D.aR==1)else some (D.aR==2);letI Y:=bif (C.kind==2)then bif (C.kind==2)then I else O else bif (C.kind==3)then bif (C.kind==3)then I else O else bif (C.kind==4)then I else O;bif (C.kind==1)then bif (C.kind==1)then U else Y else bif (C.kind==5)then U else Y
def ax1:=bB [(true,.ji),(true,.Command)] cy (bR Su) 63 [ajc] func264
def Mx(C:cg)(D E:Int):ah (Int):=letI U:=some (W6 (C.wr+C.rp));letI Y:=some (W6 (C.kj+C.rp));letI u2:=some (W6 (C.iC+C.rp));letI O:=E==5;letI I:=E==4;(Dp C).bind λy1=>bif (!y1)then some 0 else bif (E==1)then bif (D==1)then bif (E==2)then some C.lX else bif (E==3)then some C.lX else bif I then some C.iC else u2 else bif (D==2)then bif I then some C.kj else Y else bif (D==3)then bif I then some C.wr else U else bif (D==4)then some C.rp else bif (D==5)then some C.pn else some 0 else bif (D==1)then bif (E==2)then some C.lX else bif (E==3)then some C.lX else bif I then some C.iC else bif O then u2 else some 0 else bif (D==2)then bif I then some C.kj else bif O then Y else some 0 else bif (D==3)then bif I then some C.wr else bif O then U else some 0 else bif (D==4)then bif O then some C.rp else some 0 else bif (D==5)then bif O then some C.pn else some 0 else some 0
def ajd:=bB [(true,.ko),(false,.int),(false,.int)] dS (fP Mx) 57 [QL] func344
def Sv(C:Bool)(D E:Int):ah (Int):=bif C then some D else some E
def ax2:=bB [(false,.bool),(false,.int),(false,.int)] dS (fP Sv) 10 [] func348
def My(C:cg)(D E:Int)(I:Bool):ah (Int):=(let O:Bool -> ah (Int):=λj4=>bif j4 then some 0 else bif (D==7)then some C.xp else bif (D==9)then some C.xs else (let U:Bool -> ah (Int):=λj6=>bif j6 then some C.qi else (let LI:Bool -> ah (Int):=λj7=>bif j7 then (Sv I C.lY C.o6).bind λy8=>some y8 else (let Y:Bool -> ah (Int):=λj9=>bif j9 then (Sv I C.o8 C.o7).bind λgH=>some gH else (let LK:Bool -> ah (Int):=λF5=>bif F5 then (Sv I C.pg C.o9).bind λgC=>some gC else (let rR:Bool -> ah (Int):=λw5=>bif w5 then some C.su else (let Bk:Bool -> ah (Int):=λw7=>bif w7 then some C.lY else (let vp:Bool -> ah (Int):=λzb=>bif zb then some C.kj else (let Bl:Bool -> ah (Int):=λA7=>bif A7 then some C.wr else bif (E==8)then (Mx C D 1).bind λkR=>some kR else some 0;bif (E==6)then (Bl (D==3))else (Bl false));bif (E==6)then (vp (D==2))else (vp false));bif (D==5)then (Bk (E==5))else (Bk false));bif (D==2)then (rR (E==3))else (rR false));bif (D==3)then (LK (E==2))else (LK false));bif (D==E)then bif (D==2)then (Y true)else (Y (D==3))else (Y false));bif (D==1)then (LI (E==1))else (LI false));letI u0:=bif (D==8)then (U (E==9))else (U false);bif (D==6)then bif (E==7)then (U true)else u0 else u0);(Dp C).bind λy1=>bif (!y1)then (O true)else (cO D 1 9).bind λy2=>bif (!y2)then (O true)else (cO E 1 9).bind λy3=>(O (!y3)))
def ax3:=bB afx dS (nq My) 135 [fQ,QL,ajd,ax2] func343
def BE(O:aG)(x1:cg)(D C:aF):ah (Int):=letI u3:=Mx x1 D.kind C.kind;letI u0:=My x1 D.kind C.kind false;bif D.kind <= 5 then bif C.kind <= 5 then if O.aA=0 then none else if O.aA=0 then none else (My x1 D.kind C.kind ((W6 (D.ay.tdiv O.aA))==(W6 (C.ay.tdiv O.aA)))).bind λE=>letI u1:=some (if 1 > E then 1 else E);bif C.kind <= 5 then bif (D.ay==C.ay)then u3.bind λU=>some (if 1 > (if U > E then U else E)then 1 else (if U > E then U else E))else u1 else u1 else u0.bind λI=>letI u2:=some (if 1 > I then 1 else I);bif C.kind <= 5 then bif (D.ay==C.ay)then u3.bind λY=>some (if 1 > (if Y > I then Y else I)then 1 else (if Y > I then Y else I))else u2 else u2 else u0.bind λy5=>some (if 1 > y5 then 1 else y5)
def ax4:=bB afy dS (nq BE) 57 [ax3,ajd] func317
abbrev aje:=((af×af×af×af×Int×Int×af)×((Int×Int×Int×Int×af)×cg×((aa Int)×(aa Int)×af)×(Int×Int×Int×Int×af)×af))
def Mz(x:aje):ah (aje⊕(((af×af×af×Int×af)×(cg×((aa Int)×(aa Int)×af)×(Int×Int×Int×Int×af)×af))⊕Empty)):=letI E:=x.2.2.2.1;letI u3:=(⟨x.2.1.1,x.2.1.2.1,x.2.1.2.2.1,x.2.1.2.2.2.1⟩:aG);letI I:=x.2.2.2.2.1;letI u5:=(⟨I.1,I.2.1,I.2.2.1,I.2.2.2.1⟩:aF);letI O:=(x.2.1,x.2.2.1,E,I,());letI C:=x.1.2.2.2.2;letI D:=C.2.1;letI U:=W6 (D+1);letI Y:=W6 ((D.tmod 9)+1);bif D<(E.1.length:Int)then xI E.1 D λe2=>bif e2<0 then xG (((),(),(),(),C.1,U,()),O)else bif Y <= 5 then xI E.1 D λe4=>(BE u3 x.2.2.1 (⟨Y,(W6 (D.tdiv 9)),0,0⟩:aF) u5).bind λy5=>letI u8:=W6 (e4+y5);xG (((),(),(),(),(if u8 > C.1 then u8 else C.1),U,()),O)else xI E.1 D λe7=>(BE u3 x.2.2.1 (⟨Y,0,0,0⟩:aF) u5).bind λy8=>letI u9:=W6 (e7+y8);xG (((),(),(),(),(if u9 > C.1 then u9 else C.1),U,()),O)else az (((),(),(),C.1,()),(x.2.2.1,E,I,()))
def ax5:KY 67 (bf f265):=⟨0,lB 0 ⟨[(4,.aE 4 0),(5,.aE 5 0),(6,.aE 6 0),(7,.aE 7 0),(9,tI),(10,tI)],afs,[]⟩ [(2,ae3)] Mz,lp [ax4]⟩
def Sw(D:aG)(Y:cg)(O:c9)(E:aF):ah (Int):=bw Mz (((),(),(),(),0,0,()),((D.bK,D.aA,D.rows,D.aK,()),Y,(O.last,O.aT,()),(E.kind,E.ay,E.row,E.bV,()),())) λC=>letI I:=C.1.2.2.2.1;bif (C.2.2.2.1.1==1)then bif ((C.2.2.1.2.1.length:Int)==4)then xI C.2.2.1.2.1 (0:Int) λrN=>letI U:=W6 (rN+C.2.1.jJ);some (if U > C.1.2.2.2.1 then U else I)else some I else some I
def ax6:=bZ afz dS (nq Sw) 67 [] [ax5] func265
def DZ(C:ax)(D:aF):ah (Bool):=(Su C.aO D).bind λI=>bif (!I)then some false else (Sw C.config.au C.config.bY C.ready D).bind λE=>bif E <= 1000000 then some (E <= C.now)else some false
def Sx:=bB [(false,.mW),(true,.Command)] cy (bR DZ) 39 [ax1,ax6] func215
abbrev ajf:=((ax×(aa aF)×af×Int×af)×((Int×Int×Int×Int×af)×af))
def D0(x:ajf):ah (ajf⊕(((af×Bool×af)×((Int×Int×Int×Int×af)×af))⊕(((af×af)×((Int×Int×Int×Int×af)×af))⊕Empty))):=letI C:=x.1.2.2.2.1;bif C<(x.1.2.1.length:Int)then xI x.1.2.1 C λE=>(DZ x.1.1 E).bind λI=>bif I then xI x.1.2.1 C λD=>az (((),true,()),((D.kind,D.ay,D.row,D.bV,()),()))else xG ((x.1.1,x.1.2.1,(),(W6 (C+1)),()),(x.2.1,()))else bx (((),()),(x.2.1,()))
def ax7:KY 24 (bf f216):=⟨0,lB 0 ⟨[(0,.fp .cK 0),(1,.lf (.aI .Command 0)),(4,.aE 4 0),(6,tI)],[(4,.aB eK)],[]⟩ [(1,⟨[(4,.aE 4 0),(5,tB)],[(4,.aB eK)],[]⟩),(2,⟨[(4,.aE 4 0)],[(4,.aB eK)],[]⟩)] D0,lp [Sx]⟩
def MA(D:ax)(E:aa aF):ah (aF×Bool):=bU D0 ((D,E,(),0,()),((0,0,0,0,()),())) (λC=>some ((⟨C.2.1.1,C.2.1.2.1,C.2.1.2.2.1,C.2.1.2.2.2.1⟩:aF),C.1.2.1)) λI=>some ((⟨0,0,0,0⟩:aF),false)
def ax8:=bZ [(false,.mW),(false,(.sl .Command))] [(true,.Command,0),(false,.bool,0)] (bR MA) 24 [] [ax7] func216
def zD(C:ax)(D:Int):ah (Bool):=xI C.aS.aJ D λE=>some (E >= 4)
def Sz:=bB [(false,.mW),(false,.int)] cy (bR zD) 14 [] func266
def Hj(D:ax)(C:aF):ah (aF):=xI D.aO.aA C.ay λE=>bif E.open_ then some (⟨4,C.ay,0,0⟩:aF)else some C
def ZC:=bB [(false,.mW),(true,.Command)] Kb (bR Hj) 19 [] func267
abbrev ajg:=(((aa aM)×Int×Int×af)×(af))
def Hl(x:ajg):ah (ajg⊕(((Bool×af)×(af))⊕(((af)×(af))⊕Empty))):=bif x.1.2.2.1<(x.1.1.length:Int)then xI x.1.1 x.1.2.2.1 λC=>bif (C.ay==x.1.2.1)then az ((true,()),())else xG ((x.1.1,x.1.2.1,(W6 (x.1.2.2.1+1)),()),())else bx ((),())
def ax9:KY 19 (bf f268):=⟨0,lB 0 ⟨[(0,.lf (.aI .Addr 0)),(1,tI),(5,tI)],[],[]⟩ [(1,mc),(2,ic)] Hl,lp []⟩
def D1(C:aa aM)(D:Int):ah (Bool):=bU Hl ((C,D,0,()),()) (λE=>some E.1.1) λI=>some false
def ZD:=bZ [(false,(.sl .Addr)),(false,.int)] cy (bR D1) 19 [] [ax9] func268
abbrev ajh:=((ax×af×Int×af)×((aa aF)×af))
def MB(x:ajh):ah (ajh⊕(((ax×af×af)×((aa aF)×af))⊕Empty)):=letI C:=x.1.2.2.1;letI D:=(x.1.1,(),(W6 (C+1)),());bif C<(x.1.1.aS.aJ.length:Int)then (zD x.1.1 C).bind λI=>bif I then (Hj x.1.1 (⟨5,C,0,0⟩:aF)).bind λE=>bif bE (x.2.1.length+([E]:aa aF).length)then xG (D,((x.2.1++([E]:aa aF)),()))else none else xG (D,(x.2.1,()))else az ((x.1.1,(),()),(x.2.1,()))
def aya:KY 72 (bf f217):=⟨0,lB 0 ⟨[(0,.fp .cK 0),(3,.lf (.own 7)),(4,tI)],Qv,[]⟩ [(2,⟨[(0,.fp .cK 0),(3,.lf (.own 7))],Qv,[]⟩)] MB,lp [Sz,ZC]⟩
abbrev aji:=((ax×af×Int×af)×((aa aF)×af))
def ZE(x:aji):ah (aji⊕(((af×af)×((aa aF)×af))⊕Empty)):=letI C:=x.1.1;letI D:=x.1.2.2.1;letI I:=(C,(),(W6 (D+1)),());bif D<(C.pending.length:Int)then xI C.pending D λE=>(zD C E.ay).bind λU=>bif (!U)then if 0 <= (0:Int)/\0 <= D/\D <= (C.pending.length:Int)then (D1 ((C.pending.take D.toNat).drop (0:Int).toNat) E.ay).bind λY=>bif (!Y)then (Hj C (⟨1,E.ay,E.row,0⟩:aF)).bind λO=>bif bE (x.2.1.length+([O]:aa aF).length)then xG (I,((x.2.1++([O]:aa aF)),()))else none else xG (I,(x.2.1,()))else none else xG (I,(x.2.1,()))else az (((),()),(x.2.1,()))
def ayb:KY 72 (bf f217):=⟨2,lB 2 ⟨[(0,.fp .cK 0),(3,.lf (.own 7)),(5,tI)],Qv,[]⟩ [(4,⟨[(3,.lf (.own 7))],Qv,[]⟩)] ZE,lp [Sz,ZC,ZD]⟩
def SA(D:ax):ah ((aa aF)):=bw MB ((D,(),0,()),(([]:aa aF),())) λC=>bw ZE ((C.1.1,(),0,()),(C.2.1,())) λE=>some E.2.1
def ayc:=bZ [(false,.mW)] [(false,(.sl .Command),2)] (bN SA) 72 [] [aya,ayb] func217
def Ho(D:bX)(C:aM)(I:Bool):ah (aF):=letI E:=some (⟨1,C.ay,C.row,0⟩:aF);(cO C.ay 0 (W6 ((D.aA.length:Int)-1))).bind λO=>bif (!O)then E else xI D.aA C.ay λU=>bif (!U.open_)then E else xI D.aA C.ay λY=>bif (Y.row != C.row)then some (⟨4,C.ay,0,0⟩:aF)else bif I then some (⟨3,C.ay,0,C.bV⟩:aF)else some (⟨2,C.ay,0,C.bV⟩:aF)
def ZF:=bB [(true,.ji),(true,.Addr),(false,.bool)] Kb (fP Ho) 54 [fQ] func221
def zE(C:ax)(I:Int):ah (aM):=letI E:=W6 (C.config.au.rows-C.config.bL);(Kv (⟨C.config.au.bK,C.config.au.aA,E,C.config.au.aK⟩:aG) C.config.mapping I).bind λD=>xI C.spare.map (W6 ((W6 (D.1.ay*E))+D.1.row)) λO=>some (⟨D.1.ay,O,D.1.bV⟩:aM)
def SB:jQ:=ir [(false,.mW),(false,.int)] [(true,.Addr,0)] (λx=>zE x.1 x.2.1)
def ZG:enters Tryz.prog 222/\jl Tryz.prog 222 SB:=kp 50 [agj] func222
abbrev ajj:=((ax×af×Int×af)×((aa aM)×af))
def MC(x:ajj):ah (ajj⊕(((af×af)×((aa aM)×af))⊕Empty)):=bif x.1.2.2.1<(x.1.1.queue.length:Int)then xI x.1.1.queue x.1.2.2.1 λD=>(zE x.1.1 D.line).bind λC=>bif bE (x.2.1.length+([C]:aa aM).length)then xG ((x.1.1,(),(W6 (x.1.2.2.1+1)),()),((x.2.1++([C]:aa aM)),()))else none else az (((),()),(x.2.1,()))
def ayd:KY 29 (bf f269):=⟨0,lB 0 ⟨[(0,.fp .cK 0),(3,.lf (.own 5)),(4,tI)],[(5,.sl .Addr 2)],[]⟩ [(2,⟨[(3,.lf (.own 5))],[(5,.sl .Addr 2)],[]⟩)] MC,lp [⟨222,.p SB,ZG⟩]⟩
def MD(C:ax):ah ((aa aM)):=bw MC ((C,(),0,()),(([]:aa aM),())) λD=>some D.2.1
def ajk:=bZ [(false,.mW)] [(false,(.sl .Addr),2)] (bN MD) 29 [] [ayd] func269
abbrev ajl:=(((aa aN)×Int×Int×af)×(af))
def ajm(x:ajl):ah (ajl⊕(((Bool×af)×(af))⊕(((af)×(af))⊕Empty))):=letI C:=x.1.2;bif C.2.1<C.1 then bif C.1<(x.1.1.length:Int)then xI x.1.1 C.2.1 λD=>xI x.1.1 C.1 λE=>bif (D.line==E.line)then az ((true,()),())else xG ((x.1.1,C.1,(W6 (C.2.1+1)),()),())else bx ((),())else bx ((),())
def aye:KY 28 (bf f318):=⟨0,lB 0 afo [(1,mc),(2,ic)] ajm,lp []⟩
def SC(C:aa aN)(D:Int):ah (Bool):=bU ajm ((C,D,0,()),()) (λE=>some E.1.1) λI=>some false
def ajn:=bZ Qq cy (bR SC) 28 [] [aye] func318
def SD(C:jy)(D:Int)(E:Bool):ah (Bool):=(F9 C).bind λI=>bif (!I)then some false else bif E then bif C.on then some true else some (D<1)else some (!C.on)
def ayf:=bB [(true,.qk),(false,.int),(false,.bool)] cy (fP SD) 20 [YD] func319
abbrev ajo:=((ax×Int×Int×Int×af)×(af))
def D2(x:ajo):ah (ajo⊕(((ax×Int×Int×af)×(af))⊕Empty)):=letI D:=x.1.1;letI C:=x.1.2.2;letI E:=W6 (C.2.1+1);bif C.2.1<(D.queue.length:Int)then (SC D.queue C.2.1).bind λI=>bif I then xG ((D,x.1.2.1,C.1,E,()),())else xI D.queue C.2.1 λO=>bif O.write then xG ((D,x.1.2.1,(W6 (C.1+1)),E,()),())else xG ((D,(W6 (x.1.2.1+1)),C.1,E,()),())else az ((D,x.1.2.1,C.1,()),())
def ayg:KY 82 (bf f270):=⟨0,lB 0 ⟨[(0,.fp .cK 0),(3,tI),(4,tI),(5,tI)],[],[]⟩ [(2,⟨[(0,.fp .cK 0),(3,tI),(4,tI)],[],[]⟩)] D2,lp [ajn]⟩
abbrev ajp:=((ax×Int×Int×af×Int×af)×((aa Bool)×af))
def D3(x:ajp):ah (ajp⊕(((af×af)×((aa Bool)×af))⊕Empty)):=letI C:=x.2.1;letI I:=([(x.1.2.2.1==0)]:aa Bool);letI D:=x.1.2.2.2.2.1;letI E:=(x.1.1,x.1.2.1,x.1.2.2.1,(),(W6 (D+1)),());letI O:=bif bE (C.length+([false]:aa Bool).length)then xG (E,((C++([false]:aa Bool)),()))else none;bif D<(x.1.1.queue.length:Int)then xI x.1.1.queue D λU=>(SC x.1.1.queue D).bind λY=>bif (!Y)then (SD x.1.1.drain x.1.2.1 U.write).bind λy8=>bif y8 then bif bE (C.length+([true]:aa Bool).length)then xG (E,((C++([true]:aa Bool)),()))else none else bif (!U.write)then bif bE (C.length+I.length)then xG (E,((C++I),()))else none else O else O else az (((),()),(C,()))
def ayh:KY 82 (bf f270):=⟨2,lB 2 ⟨[(0,.fp .cK 0),(3,tI),(4,tI),(6,.lf (.own 36)),(7,tI)],[(36,.sl .bool 2)],[]⟩ [(4,⟨[(6,.lf (.own 36))],[(36,.sl .bool 2)],[]⟩)] D3,lp [ajn,ayf]⟩
def SE(D:ax):ah ((aa Bool)):=bw D2 ((D,0,0,0,()),()) λC=>bw D3 ((C.1.1,C.1.2.1,C.1.2.2.1,(),0,()),(([]:aa Bool),())) λE=>some E.2.1
def ayi:=bZ [(false,.mW)] [(false,(.sl .bool),2)] (bN SE) 82 [] [ayg,ayh] func270
def SF(C:bX)(D:Int):ah (Int):=(cO D 0 (W6 ((C.aA.length:Int)-1))).bind λE=>bif (!E)then some (-1)else xI C.aA D λI=>bif (!I.open_)then some (-1)else xI C.aA D λO=>some O.row
def ayj:=bB [(true,.ji),(false,.int)] dS (bR SF) 27 [fQ] func320
def D4(D:bX)(C:aM):ah (Bool):=(SF D C.ay).bind λE=>bif (E==C.row)then (SF D C.ay).bind λI=>some (I != (-1))else some false
def ajq:=bB [(true,.ji),(true,.Addr)] cy (bR D4) 19 [ayj] func272
abbrev ajr:=((ax×(aa aM)×(aa Bool)×af×Int×af)×((Int×Int×Int×af)×af))
def SG(x:ajr):ah (ajr⊕(((Bool×af)×(af))⊕(((af)×(af))⊕Empty))):=letI C:=x.1.2;letI D:=C.2.2.2.1;letI E:=xG ((x.1.1,C.1,C.2.1,(),(W6 (D+1)),()),(x.2.1,()));bif D<(C.1.length:Int)then xI C.2.1 D λI=>bif I then xI C.1 D λO=>bif (O.ay==x.2.1.1)then xI C.1 D λU=>(D4 x.1.1.aO U).bind λY=>bif Y then az ((false,()),())else E else E else E else bx ((),())
def ayk:KY 120 (bf f271):=⟨0,lB 0 ⟨[(0,.fp .cK 0),(1,.lf (.aI .Addr 0)),(2,.lf (.aI .bool 0)),(9,.aE 9 0),(12,tI)],[(9,.aB J6)],[]⟩ [(1,⟨[(8,tB)],[],[]⟩),(2,ic)] SG,lp [ajq]⟩
def SH(C:ax)(O:aa aM)(U:aa Bool)(E:Int):ah (Bool):=xI O E λD=>(let Y:Bool -> ah (Bool):=λj6=>bif j6 then some false else xI C.queue E λe9=>(Ho C.aO D e9.write).bind λI=>(DZ C I).bind λfR=>bif (!fR)then some false else (let LL:Bool -> ah (Bool):=λvn=>(let GN:Bool -> ah (Bool):=λw7=>bif w7 then some false else (let vp:Bool -> ah (Bool):=λDm=>bif Dm then some true else bU SG ((C,O,U,(),0,()),((D.ay,D.row,D.bV,()),())) (λZt=>some Zt.1.1) (λz28=>some true);bif (I.kind != 4)then (vp true)else xI C.queue E λxl=>(vp (decide ((W6 (C.now-xl.at_)) >= C.box.cr.cap))));bif vn then (D1 C.pending D.ay).bind λgU=>(GN gU)else (GN false));bif (I.kind==1)then (LL true)else (LL (I.kind==4)));xI U E λe4=>bif (!e4)then (Y true)else (zD C D.ay).bind λy5=>(Y y5))
def ayl:=bZ [(false,.mW),(false,(.sl .Addr)),(false,(.sl .bool)),(false,.int)] cy (nq SH) 120 [Sx,ZF,Sz,ZD] [ayk] func271
end Go.Proofs.YtdfkhfiglknaoaaGreat
