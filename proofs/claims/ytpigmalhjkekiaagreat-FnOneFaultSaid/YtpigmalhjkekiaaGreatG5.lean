/-
  Functions of the program as plain functions of contents, and that the code computes them. Nothing here is a claim.
-/
import Derived.Test.YtpigmalhjkekiaaGreatVZ
import Derived.Test.YtpigmalhjkekiaaGreatRows
import Derived.Test.YtpigmalhjkekiaaGreatG1
import Derived.Test.YtpigmalhjkekiaaGreatG2
import Derived.Test.YtpigmalhjkekiaaGreatG3
import Derived.Test.YtpigmalhjkekiaaGreatG4
namespace Go.Proofs.YtpigmalhjkekiaaGreat
set_option linter.defProp false
open Go.RowKit Go.Proofs.Tryz
set_option linter.unusedVariables false
set_option maxRecDepth 100000
def J5(C:jE)(E:Bool):aj (jE×Bool):=(Fi C).bind λD=>bif (!E)then some (D,false)else bif (!C.waits)then some (D,false)else (ue C.next).bind λI=>some ((⟨I,D.next,false⟩:jE),true)
def aqz:=bD [(true,.s9),(false,.bool)] NM (cF J5) 23 [OQ,V9] func115
def zm(C:qT)(D:Int):aj (qT×Int):=letI E:=some (C,(-1));(cc C.every 1 100000).bind λI=>bif (!I)then E else (cc C.wait 1 C.every).bind λO=>bif (!O)then E else bif D<1 then E else (cc C.next 0 (W6 (D-1))).bind λT=>bif (!T)then E else bif (W6 (C.wait-1)) > 0 then some ((⟨C.next,C.every,(W6 (C.wait-1))⟩:qT),(-1))else if D=0 then none else some ((⟨((W6 (C.next+1)).tmod D),C.every,C.every⟩:qT),C.next)
def aqA:=bD [(true,.uL),(false,.int)] [(true,.uL,0),(false,.int,0)] (cF zm) 52 [dW] func116
def J6(D:aa Int):aj (Bool):=(A5 D).bind λC=>bif jG C then none else xL C (0:Int) λE=>bif (E==0)then xL C (1:Int) λI=>bif (I==0)then xL C (2:Int) λO=>some (O==0)else some false else some false
def aqB:=bD ze cG (bP J6) 26 [V5] func208
abbrev afs:=((Int×Int×ah)×(ah))
def aft(x:afs):aj (afs⊕(((Int×ah)×(ah))⊕(((ah)×(ah))⊕Empty))):=bif x.1.2.1<15 then (Jx 2 x.1.2.1).bind λC=>bif (C==x.1.1)then aE ((x.1.2.1,()),())else xG ((x.1.1,(W6 (x.1.2.1+1)),()),())else bk ((),())
def aqC:KY 13 (bx f209):=⟨0,lB 0 adl [(1,⟨[(2,tI)],[],[]⟩),(2,iW)] aft,lp [aen]⟩
def Dd(C:Int):aj (Int):=bY aft ((C,0,()),()) (λD=>some D.1.1) λE=>some (-1)
def aqD:=cM ny fV (bP Dd) 13 [] [aqC] func209
def De(E:aa Int):aj ((aa Int)×Int×Int):=letI u1:=xA E;letI I:=some (u1,2,(-1));(A5 E).bind λD=>bif jG D then none else bif xZ E then (J6 E).bind λT=>bif T then some (u1,0,(-1))else xL D (0:Int) λU=>bif (U != 0)then xL D (1:Int) λY=>bif (Y != 0)then xL D (1:Int) λZ=>xL D (0:Int) λwX=>(wW wX).bind λkI=>(iB Z kI).bind λO=>(Dd O).bind λC=>bif C<11 then xL D (1:Int) λe20=>xL D (2:Int) λe23=>(iB e20 O).bind λoe=>bif (oe==e23)then xC u1 C (if Wr:C.toNat<u1.length then (let ON:=u1[C.toNat]'Wr;xL D (0:Int) λV6=>xC u1 C (if h32:C.toNat<u1.length then (let e33:=u1[C.toNat]'h32;some ((u1.set C.toNat (bits .xor .i64 ON V6)),1,C))else none))else none)else I else I else I else I else none
def afu:=bD ze [(false,(.sl .int),2),(false,.int,0),(false,.int,0)] (bP De) 64 [V5,aes,Jw,aqB,aqD] func171
abbrev afv:=((Int×(aa Int)×Int×Int×ah)×(ah))
def J7(x:afv):aj (afv⊕(((Int×ah)×(ah))⊕Empty)):=letI C:=x.1.2.2.2.1;bif C<x.1.2.2.1 then xI x.1.2.1 C λD=>if (W6 (4*C))<0 then none else xG (((bits .or .i64 x.1.1 (W6 (D*2 ^ (min (W6 (4*C)).toNat IntKind.i64.bits)))),x.1.2.1,x.1.2.2.1,(W6 (C+1)),()),())else aE ((x.1.1,()),())
def aqE:KY 25 (bx f210):=⟨0,lB 0 ⟨[(4,tI),(10,.lf (.aH .int 0)),(11,tI),(12,tI)],[],[]⟩ [(2,zd)] J7,lp []⟩
def Pa(C:aa Int):aj (Int×Bool):=(wV C 8).bind λD=>bif (!D)then some (0,false)else bR J7 ((0,C,(C.length:Int),0,()),()) λE=>some (E.1.1,true)
def aqF:=cM ze [(false,.int,0),(false,.bool,0)] (bP Pa) 25 [Jv] [aqE] func210
def Pb(D:aa Int):aj ((aa Int)):=letI C:=(D.length:Int);letI u1:=(D.take C.toNat).drop (3:Int).toNat;(wV D 11).bind λE=>bif (!E)then some ([])else if 0 <= (3:Int)/\3 <= C/\C <= C then bif xZ u1 then some (xA u1)else none else none
def aqG:=bD ze vB (bP Pb) 10 [Jv] func211
def Pc(D:aa Int):aj (Int×Int×Int):=(De D).bind λC=>bif (C.2.1==2)then some (0,C.2.1,C.2.2)else (Pb C.1).bind λE=>(Pa E).bind λI=>some (I.1,C.2.1,C.2.2)
def aqH:=bD ze [(false,.int,0),(false,.int,0),(false,.int,0)] (bP Pc) 29 [afu,aqF,aqG] func172
def J8(C:aa cr):aj ((aa cr)):=bif xZ C then some (xA C)else none
def aqI:=bD [(false,(.sl .iG))] [(false,(.sl .iG),2)] (bP J8) 6 [] func212
abbrev afw:=((Int×Int×ah×ah×Int×Int×ah)×((aa cr)×ah))
def J9(x:afw):aj (afw⊕(((ah×Bool×ah)×((aa cr)×ah))⊕(((Int×Int×ah×ah)×((aa cr)×ah))⊕Empty))):=letI u1:=x.1.2.2.2.2;letI D:=xG ((x.1.1,x.1.2.1,(),(),u1.1,(W6 (u1.2.1+1)),()),(x.2.1,()));bif u1.2.1<u1.1 then xL x.2.1 u1.2.1 λC=>letI u2:=W6 (C.times+1);bif (C.line==x.1.1)then bif (C.code==x.1.2.1)then xL x.2.1 u1.2.1 λE=>aE (((),true,()),((x.2.1.set u1.2.1.toNat (⟨E.line,E.code,(if 999<u2 then 999 else u2)⟩:cr)),()))else D else D else bk ((x.1.1,x.1.2.1,(),()),(x.2.1,()))
def aqJ:KY 69 (bx f173):=⟨0,lB 0 acL [(1,ac9),(2,ac3)] J9,lp []⟩
abbrev afx:=((Int×Int×ah×ah×Int×Int×ah)×((aa cr)×ah))
def Ws(x:afx):aj (afx⊕(((ah×Bool×ah)×((aa cr)×ah))⊕(((Int×Int×ah×ah)×((aa cr)×ah))⊕Empty))):=letI u1:=x.1.2.2.2.2;letI D:=xG ((x.1.1,x.1.2.1,(),(),u1.1,(W6 (u1.2.1+1)),()),(x.2.1,()));bif u1.2.1<u1.1 then xL x.2.1 u1.2.1 λC=>letI u2:=W6 (C.times+1);bif (C.line==x.1.1)then bif (C.code==x.1.2.1)then xL x.2.1 u1.2.1 λE=>aE (((),true,()),((x.2.1.set u1.2.1.toNat (⟨E.line,E.code,(if 999<u2 then 999 else u2)⟩:cr)),()))else D else D else bk ((x.1.1,x.1.2.1,(),()),(x.2.1,()))
def aqK:KY 69 (bx f173):=⟨0,lB 0 acL [(1,ac9),(2,ac3)] Ws,lp []⟩
def Pe(T:aa cr)(U I:Int):aj ((aa cr)×Bool):=(J8 T).bind λO=>letI u5:=some (O,false);letI u4:=((U,I,(),(),(O.length:Int),0,()),(O,()));(JV T).bind λy2=>bif (!y2)then u5 else (cc U 0 1023).bind λy3=>bif (!y3)then u5 else bif (I != 1)then bif (I != 2)then u5 else bY J9 u4 (λY=>some (Y.2.1,Y.1.2.1)) λC=>letI u2:=(C.2.1.length:Int);letI E:=([(⟨C.1.1,C.1.2.1,1⟩:cr)]:aa cr);bif (u2==6)then if 0 <= (1:Int)/\1 <= u2/\u2 <= u2 then (J8 ((C.2.1.take (u2.toNat)).drop ((1:Int).toNat))).bind λZ=>bif bX (Z.length+E.length)then some ((Z++E),true)else none else none else bif bX (C.2.1.length+E.length)then some ((C.2.1++E),true)else none else bY Ws u4 (λPf=>some (Pf.2.1,Pf.1.2.1)) λD=>letI u3:=(D.2.1.length:Int);letI u1:=([(⟨D.1.1,D.1.2.1,1⟩:cr)]:aa cr);bif (u3==6)then if 0 <= (1:Int)/\1 <= u3/\u3 <= u3 then (J8 ((D.2.1.take (u3.toNat)).drop ((1:Int).toNat))).bind λkJ=>bif bX (kJ.length+u1.length)then some ((kJ++u1),true)else none else none else bif bX (D.2.1.length+u1.length)then some ((D.2.1++u1),true)else none
def aqL:=cM adi [(false,(.sl .iG),2),(false,.bool,0)] (iV Pe) 69 [dW,afk,aqI] [aqJ,aqK] func173
def zn(C:ax)(E D:Int):aj ((ah)×(ax×ah)):=bif (D != 0)then (Pe C.errors E D).bind λI=>some ((),({C with errors:=I.1},()))else some ((),(C,()))
def afy:=nu adj [] (iV zn) 21 [aqL] func118
def Df(C:Int)(D:Bool)(E:Int):aj (Bool):=bif (!D)then some (C==0)else (cc C 0 (W6 (E-1))).bind λI=>some I
def aqM:=bD [(false,.int),(false,.bool),(false,.int)] cG (iV Df) 15 [dW] func230
def Pg(C:Int):aj (Bool):=some (C==1)
def aqN:=bD ny cG (bP Pg) 5 [] func231
def Pj(C:Int):aj (Bool):=bif (C==2)then some true else some (C==3)
def aqO:=bD ny cG (bP Pj) 9 [] func232
def Wt(C:aT)(D E I:Int):aj (Bool):=(cc C.kind 1 9).bind λO=>bif O then (zj C.kind).bind λT=>(Df C.ay T D).bind λU=>bif U then (Pg C.kind).bind λY=>(Df C.row Y E).bind λZ=>bif Z then (Pj C.kind).bind λy6=>(Df C.bZ y6 I).bind λy7=>some y7 else some false else some false else some false
def aqP:=bD [(true,.Command),(false,.int),(false,.int),(false,.int)] cG (AU Wt) 39 [dW,O0,aqM,aqN,aqO] func179
def FB(C:aF)(D:aT):aj (Bool):=(qI C).bind λE=>bif E then (lC C).bind λI=>(Wt D I C.rows C.aQ).bind λO=>some O else some false
def Wu:=bD [(true,.gf),(true,.Command)] cG (cF FB) 17 [nA,uc,aqP] func122
def Ka(I:aF)(D:cg)(C:aT):aj (Bool):=letI u4:=D.aR==0;letI u3:=bif u4 then xI D.aI C.ay λO=>some (!O.open_)else some false;letI u2:=bif u4 then xI D.aI C.ay λT=>some T.open_ else some false;letI E:=bif (C.kind==6)then some u4 else bif (C.kind==8)then bif u4 then (A8 D).bind λU=>some ((U.length:Int)==0)else some false else bif (C.kind==7)then some (D.aR==1)else some (D.aR==2);letI u1:=bif (C.kind==2)then bif (C.kind==2)then u2 else E else bif (C.kind==3)then bif (C.kind==3)then u2 else E else bif (C.kind==4)then u2 else E;(JI I D).bind λY=>bif (!Y)then some false else (FB I C).bind λZ=>bif (!Z)then some false else bif (C.kind==1)then bif (C.kind==1)then u3 else u1 else bif (C.kind==5)then u3 else u1
def afz:=bD [(true,.gf),(true,.kV),(true,.Command)] cG (iV Ka) 75 [aeY,Wu,OZ] func180
def Pm(C:c8)(D E:Int):aj (Int):=(let T:Bool -> aj (Int):=λI=>(let O:Bool -> aj (Int):=λj2=>bif j2 then some C.p7 else (let U:Bool -> aj (Int):=λj3=>bif j3 then some C.ji else (let Y:Bool -> aj (Int):=λj4=>bif j4 then some (W6 (C.ji+C.rp))else (let Z:Bool -> aj (Int):=λj5=>bif j5 then some C.mV else (let Wv:Bool -> aj (Int):=λj6=>bif j6 then some (W6 (C.mV+C.rp))else (let Ww:Bool -> aj (Int):=λj7=>bif j7 then some C.wr else (let FC:Bool -> aj (Int):=λj8=>bif j8 then some (W6 (C.wr+C.rp))else (let Wx:Bool -> aj (Int):=λj9=>bif j9 then some C.rp else (let Wy:Bool -> aj (Int):=λA1=>bif A1 then some C.sY else some 0;bif (D==5)then (Wy I)else (Wy false));bif (D==4)then (Wx I)else (Wx false));bif (D==3)then (FC I)else (FC false));bif (D==3)then (Ww (E==4))else (Ww false));bif (D==2)then (Wv I)else (Wv false));bif (D==2)then (Z (E==4))else (Z false));bif (D==1)then (Y I)else (Y false));bif (D==1)then (U (E==4))else (U false));bif (D==1)then bif (E==2)then (O true)else (O (E==3))else (O false));bif (E==1)then (T true)else (T (E==5)))
def afA:=bD [(true,.mW),(false,.int),(false,.int)] fV (iV Pm) 103 [] func235
def aqQ:enters Tryz.prog 258/\ri Tryz.prog 258 (ci Tryz.prog f258 1 []):=EW 1 [] func258 trivial
def Pn(C:c8)(D E:Int)(I:Bool):aj (Int):=bif (D==7)then some C.xp else bif (D==9)then some C.xs else (let U:Bool -> aj (Int):=λj1=>bif j1 then (let Y:Int -> aj (Int):=λj2=>some j2;bif I then (Y C.nS)else (Y C.rV))else (let O:Bool -> aj (Int):=λj4=>bif j4 then (let Z:Int -> aj (Int):=λj5=>some j5;bif I then (Z C.rX)else (Z C.rW))else (let Kb:Bool -> aj (Int):=λj7=>bif j7 then (let k9:Int -> aj (Int):=λj8=>some j8;bif I then (k9 C.rZ)else (k9 C.rY))else (let k20:Bool -> aj (Int):=λA1=>bif A1 then some C.v5 else (let k19:Bool -> aj (Int):=λN4=>bif N4 then some C.nS else (let k18:Bool -> aj (Int):=λN5=>bif N5 then some C.mV else (let IQ:Bool -> aj (Int):=λEZ=>bif EZ then some C.wr else bif (E==8)then (Pm C D 1).bind λlA=>some lA else (let T:Bool -> aj (Int):=λN6=>bif N6 then some C.sZ else some 0;letI u0:=bif (D==8)then (T (E==9))else (T false);bif (D==6)then bif (E==7)then (T true)else u0 else u0);bif (D==3)then (IQ (E==6))else (IQ false));bif (D==2)then (k18 (E==6))else (k18 false));bif (D==5)then (k19 (E==5))else (k19 false));bif (D==2)then (k20 (E==3))else (k20 false));bif (D==3)then (Kb (E==2))else (Kb false));letI u1:=bif (D==3)then (O (E==3))else (O false);bif (D==2)then bif (E==2)then (O true)else u1 else u1);bif (D==1)then (U (E==1))else (U false))
def aqR:=bD [(true,.mW),(false,.int),(false,.int),(false,.bool)] fV (AU Pn) 126 [afA,⟨258,.i _,aqQ⟩] func233
def Kc(C:aF)(D:Int):aj (Int):=(lC C).bind λE=>(cc D 0 (W6 (E-1))).bind λI=>bif (!I)then some (-1)else if C.aI=0 then none else some (W6 (D.tdiv C.aI))
def aqS:=bD IG fV (cF Kc) 15 [nA,dW] func234
def Kd(U:aF)(O:c8)(C D:aT):aj (Int):=letI u3:=Pm O C.kind D.kind;letI Y:=Pn O C.kind D.kind false;(zj C.kind).bind λy1=>bif y1 then (zj D.kind).bind λT=>bif T then (Kc U C.ay).bind λy3=>(Kc U D.ay).bind λy4=>(Pn O C.kind D.kind (y3==y4)).bind λE=>letI u1:=some (if E > 1 then E else 1);bif T then bif (C.ay==D.ay)then u3.bind λZ=>some (if Z > (if E > 1 then E else 1)then Z else (if E > 1 then E else 1))else u1 else u1 else Y.bind λI=>letI u2:=some (if I > 1 then I else 1);bif T then bif (C.ay==D.ay)then u3.bind λy8=>some (if y8 > (if I > 1 then I else 1)then y8 else (if I > 1 then I else 1))else u2 else u2 else Y.bind λy9=>some (if y9 > 1 then y9 else 1)
def aqT:=bD [(true,.gf),(true,.mW),(true,.Command),(true,.Command)] fV (AU Kd) 55 [O0,aqR,aqS,afA] func181
def aqU:bG:=⟨[(4,.aG 4 0),(5,.aG 5 0),(6,.aG 6 0),(7,.aG 7 0),(9,tI),(30,.lf (.aH .int 0)),(31,tI),(32,tI)],[(4,.az ia),(5,.st .mW),(6,.az CX),(7,.az ia)],[]⟩
def aqV:aa (Nat×bG):=[(2,⟨[(5,.aG 5 0),(6,.aG 6 0),(7,.aG 7 0),(9,tI)],[(5,.st .mW),(6,.az CX),(7,.az ia)],[]⟩)]
abbrev afB:=((ah×ah×ah×ah×Int×(aa Int)×Int×Int×ah)×((Int×Int×Int×Int×ah)×c8×((aa Int)×(aa Int)×ah)×(Int×Int×Int×Int×ah)×ah))
def Kg(x:afB):aj (afB⊕(((ah×ah×ah×Int×ah)×(c8×((aa Int)×(aa Int)×ah)×(Int×Int×Int×Int×ah)×ah))⊕Empty)):=letI u2:=(⟨x.2.1.1,x.2.1.2.1,x.2.1.2.2.1,x.2.1.2.2.2.1⟩:aF);letI u1:=x.2.2.2.2.1;letI u4:=(x.2.1,x.2.2.1,x.2.2.2.1,u1,());letI C:=x.1.2.2.2.2;letI u3:=C.2.2.2.1;bif u3<C.2.2.1 then xI C.2.1 u3 λD=>bif D<0 then xG (((),(),(),(),C.1,C.2.1,C.2.2.1,(W6 (u3+1)),()),u4)else (C8 u2 u3).bind λE=>(Kd u2 x.2.2.1 E.1 (⟨u1.1,u1.2.1,u1.2.2.1,u1.2.2.2.1⟩:aT)).bind λI=>letI u5:=W6 (D+I);xG (((),(),(),(),(if u5 > C.1 then u5 else C.1),C.2.1,C.2.2.1,(W6 (u3+1)),()),u4)else aE (((),(),(),C.1,()),(x.2.2.1,x.2.2.2.1,u1,()))
def aqW:KY 76 (bx f220):=⟨0,lB 0 aqU aqV Kg,lp [aeZ,aqT]⟩
def Po(C:aF)(T:c8)(D:ef)(E:aT):aj (Int):=(Fa T).bind λU=>bif (!U)then some (-1)else (Fs C D).bind λY=>bif (!Y)then some (-1)else (FB C E).bind λZ=>bif (!Z)then some (-1)else bR Kg (((),(),(),(),0,D.last,(D.last.length:Int),0,()),((C.cm,C.aI,C.rows,C.aQ,()),T,(D.last,D.bg,()),(E.kind,E.ay,E.row,E.bZ,()),())) λI=>letI u3:=I.1.2.2.2.1;letI u1:=u3;letI u2:=bif u1 > 1000000 then some (-1)else some u1;bif (I.2.2.2.1.1==1)then bif ((I.2.2.1.2.1.length:Int)==4)then xI I.2.2.1.2.1 (0:Int) λPp=>letI O:=W6 (Pp+I.2.1.mg);bif (if O > u3 then O else u1) > 1000000 then some (-1)else some (if O > u3 then O else u1)else u2 else u2
def aqX:=cM [(true,.gf),(true,.mW),(true,.oE),(true,.Command)] fV (AU Po) 76 [Wl,VZ,Wu] [aqW] func220
def jn(C:ax)(D:aT):aj (Bool):=(Ka C.config.ak C.aN D).bind λI=>bif (!I)then some false else (Po C.config.ak C.config.bQ C.ready D).bind λE=>bif (E != (-1))then some (E <= C.now)else some false
def FD:=bD [(true,.dV),(true,.Command)] cG (cF jn) 32 [afz,aqX] func175
def Pu(D:uK)(C:iF)(E:Bool):aj (Int):=letI u1:=bif (C.state==1)then bif C.idle >= D.sleep then some 7 else some 0 else some 0;letI u2:=bif (C.state==0)then bif C.idle >= D.down then some 6 else u1 else u1;letI I:=bif E then some 0 else bif (C.state==0)then bif C.idle >= D.sleep then some 8 else u2 else u2;letI u3:=bif E then bif (C.state==2)then some 9 else I else I;(Js D).bind λO=>bif (!O)then some 0 else (Dc C).bind λT=>bif (!T)then some 0 else bif E then bif (C.state==1)then some 7 else u3 else u3
def aqY:=bD [(true,.v7),(true,.Power),(false,.bool)] fV (iV Pu) 64 [O5,aeg] func213
def Bc(D:ax)(C:Int)(E:aT):aj (aT):=xI D.aN.aI C λI=>bif I.open_ then some (⟨4,C,0,0⟩:aT)else some E
def Wz:=bD [(true,.dV),(false,.int),(true,.Command)] [(true,.Command,0)] (iV Bc) 17 [] func214
def wY(C:aa Int)(D:Int):aj (Bool):=(Da C D).bind λE=>some (decide (E >= 0))
def WA:=bD EX cG (cF wY) 9 [Wn] func215
def aqZ:enters Tryz.prog 243/\ri Tryz.prog 243 (cj Tryz.prog f243 1 []):=Iz (EW 1 [] func243 trivial)
abbrev afC:=(((aa aO)×Int×Int×Int×ah)×(ah))
def FE(x:afC):aj (afC⊕(((Int×ah)×(ah))⊕(((ah)×(ah))⊕Empty))):=letI C:=x.1.2.2.2.1;bif C<x.1.2.2.1 then xI x.1.1 C λD=>bif (D.ay==x.1.2.1)then aE ((C,()),())else xG ((x.1.1,x.1.2.1,x.1.2.2.1,(W6 (C+1)),()),())else bk ((),())
def aq0:KY 19 (bx f256):=⟨0,lB 0 ⟨[(0,.lf (.aH .Addr 0)),(1,.fc 243 .int),(7,tI),(8,tI)],[],[]⟩ [(1,zd),(2,iW)] FE,lp [⟨243,.i _,aqZ⟩]⟩
def WB(C:aa aO)(D:Int):aj (Int):=(iter FE bq ((C,D,(C.length:Int),0,()),())).bind (Sum.elim (λE=>some E.1.1) (Sum.elim (λI=>some (-1)) (λz=>nomatch z)))
def aq1:KX:=⟨256,.q (iL [(false,(.sl .Addr)),(false,(.B3 243))] [(false,.int,0)] λx=>WB x.1 x.2.1),kq 19 [] [aq0] func256⟩
def WC(C:aa aO)(D:Int):aj (Bool):=(WB C D).bind λE=>some (decide (E >= 0))
def aq2:KX:=⟨242,.q (iL [(false,(.sl .Addr)),(false,(.B3 243))] [(false,.bool,0)] λx=>WC x.1 x.2.1),kp 9 [aq1] func242⟩
def Dg(C:aa aO)(D:Int):aj (Bool):=(WC C D).bind λE=>some E
def WD:=bD [(false,(.sl .Addr)),(false,.int)] cG (cF Dg) 8 [aq2] func216
def Be(C:aF)(D E:Int):aj (Bool):=(zk C (⟨D,E,0⟩:aO)).bind λI=>some I
def WE:=bD [(true,.gf),(false,.int),(false,.int)] cG (iV Be) 12 [JN] func239
def Dh(E:aF)(D:eP)(I O:Int):aj (Int):=(zi E D).bind λT=>(Be T I O).bind λU=>bif (!U)then some (-1)else (C7 E D I).bind λC=>bif Nat.ble C.1 C.2&&Nat.ble C.2 D.map.length then xI ((D.map.take C.2).drop C.1) O λY=>some Y else none
def afD:=bD Vy fV (AU Dh) 23 [Fp,⟨164,.v OX,Wj⟩,WE] func198
def Pv(C:aF)(E:nR)(I:Int):aj (aO×Bool):=letI u3:=I.tmod C.aQ;letI u2:=some ((⟨0,0,0⟩:aO),false);letI O:=W6 (I.tdiv C.aQ);letI u6:=O.tmod C.rows;(qI C).bind λT=>bif (!T)then u2 else (Jp E).bind λU=>bif (!U)then u2 else (ud C).bind λY=>(cc I 0 (W6 (Y-1))).bind λZ=>bif (!Z)then u2 else (lC C).bind λD=>letI u5:=W6 (O.tdiv D);letI u4:=W6 (I.tdiv D);letI u1:=W6 (u4.tdiv C.aQ);bif (E.order==0)then if C.aQ=0 then none else if C.aQ=0 then none else if D=0 then none else if C.aQ=0 then none else if D=0 then none else bif E.hash then if D=0 then none else some ((⟨((W6 ((O.tmod D)+u5)).tmod D),u5,u3⟩:aO),true)else some ((⟨(O.tmod D),u5,u3⟩:aO),true)else bif (E.order==1)then if D=0 then none else if D=0 then none else if C.aQ=0 then none else if D=0 then none else if C.aQ=0 then none else bif E.hash then if D=0 then none else some ((⟨((W6 ((I.tmod D)+u1)).tmod D),u1,(u4.tmod C.aQ)⟩:aO),true)else some ((⟨(I.tmod D),u1,(u4.tmod C.aQ)⟩:aO),true)else if C.aQ=0 then none else if C.aQ=0 then none else if C.rows=0 then none else if C.aQ=0 then none else if C.rows=0 then none else bif E.hash then if D=0 then none else some ((⟨((W6 ((W6 (O.tdiv C.rows))+u6)).tmod D),u6,u3⟩:aO),true)else some ((⟨(W6 (O.tdiv C.rows)),u6,u3⟩:aO),true)
def aq3:=bD [(true,.gf),(true,.s7),(false,.int)] NN (iV Pv) 99 [nA,Fe,dW,uc,aed] func221
def wZ(C:ax)(E:Int):aj (aO×Bool):=(zi C.config.ak C.spare).bind λI=>(Pv I C.config.mapping E).bind λD=>bif (!D.2)then some ((⟨0,0,0⟩:aO),false)else (Dh C.config.ak C.spare D.1.ay D.1.row).bind λO=>some ((⟨D.1.ay,O,D.1.bZ⟩:aO),true)
def WG:=bD VJ NN (cF wZ) 37 [Fp,afD,aq3] func176
abbrev afE:=((ah×ah×(aa aU)×Int×Int×ah)×(ax×(aa aO)×ah))
def Kh(x:afE):aj (afE⊕(((ah×ah)×((aa aO)×ah))⊕Empty)):=letI C:=x.1.2.2;bif C.2.2.1<C.2.1 then xI C.1 C.2.2.1 λE=>(wZ x.2.1 E.line).bind λD=>bif bX (x.2.2.1.length+([D.1]:aa aO).length)then xG (((),(),C.1,C.2.1,(W6 (C.2.2.1+1)),()),(x.2.1,(x.2.2.1++([D.1]:aa aO)),()))else none else aE (((),()),(x.2.2.1,()))
def aq4:KY 29 (bx f217):=⟨0,lB 0 ⟨[(1,.aG 1 0),(3,.lf (.own 8)),(10,.lf (.aH .ez 0)),(11,tI),(12,tI)],[(1,.st .dV),(8,.sl .Addr 2)],[]⟩ [(2,⟨[(3,.lf (.own 8))],[(8,.sl .Addr 2)],[]⟩)] Kh,lp [WG]⟩
def Pw(C:ax):aj ((aa aO)):=bR Kh (((),(),C.queue,(C.queue.length:Int),0,()),(C,([]:aa aO),())) λD=>some D.2.1
def aq5:=cM wQ [(false,(.sl .Addr),2)] (bP Pw) 29 [] [aq4] func217
def Di(D:cg)(C:aO)(I:Bool):aj (aT):=letI E:=some (⟨1,C.ay,C.row,0⟩:aT);(cc C.ay 0 (W6 ((D.aI.length:Int)-1))).bind λO=>bif (!O)then E else xI D.aI C.ay λT=>bif (!T.open_)then E else xI D.aI C.ay λU=>bif (U.row != C.row)then some (⟨4,C.ay,0,0⟩:aT)else bif I then some (⟨3,C.ay,0,C.bZ⟩:aT)else some (⟨2,C.ay,0,C.bZ⟩:aT)
def afF:=bD [(true,.kV),(true,.Addr),(false,.bool)] [(true,.Command,0)] (iV Di) 57 [dW] func177
abbrev afG:=(((aa aU)×Int×(aa aU)×Int×Int×ah)×(ah))
def FF(x:afG):aj (afG⊕(((Bool×ah)×(ah))⊕(((ah)×(ah))⊕Empty))):=letI C:=x.1.2.2;bif C.2.2.1<C.2.1 then xI C.1 C.2.2.1 λD=>xI x.1.1 x.1.2.1 λE=>bif (D.line==E.line)then aE ((true,()),())else xG ((x.1.1,x.1.2.1,C.1,C.2.1,(W6 (C.2.2.1+1)),()),())else bk ((),())
def aq6:KY 30 (bx f244):=⟨0,lB 0 ⟨[(0,.lf (.aH .ez 0)),(1,tI),(15,.lf (.aH .ez 0)),(16,tI),(17,tI)],[],[]⟩ [(1,lV),(2,iW)] FF,lp []⟩
def Px(D:aa aU)(C:Int):aj (Bool):=letI E:=(D.take C.toNat).drop (0:Int).toNat;(cc C 0 (W6 ((D.length:Int)-1))).bind λI=>bif (!I)then some false else if 0 <= (0:Int)/\0 <= C/\C <= (D.length:Int)then bY FF ((D,C,E,(E.length:Int),0,()),()) (λO=>some O.1.1) λT=>some false else none
def aq7:=cM [(false,(.sl .ez)),(false,.int)] cG (cF Px) 30 [dW] [aq6] func244
def Py(C:lM)(D:Int)(E:Bool):aj (Bool):=(C3 C).bind λI=>bif (!I)then some false else bif E then bif C.on then some true else some (D<1)else some (!C.on)
def aq8:=bD [(true,.s8),(false,.int),(false,.bool)] cG (iV Py) 20 [OJ] func245
end Go.Proofs.YtpigmalhjkekiaaGreat
