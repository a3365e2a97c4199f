/-
  Functions of the program as plain functions of contents, and that the code computes them. Nothing here is a claim.
-/
import Derived.Test.YtgjfmljpdnnihaaGreatVZ
import Derived.Test.YtgjfmljpdnnihaaGreatRows
import Derived.Test.YtgjfmljpdnnihaaGreatG1
import Derived.Test.YtgjfmljpdnnihaaGreatG2
import Derived.Test.YtgjfmljpdnnihaaGreatG3
namespace Go.Proofs.YtgjfmljpdnnihaaGreat
set_option linter.defProp false
open Go.RowKit Go.Proofs.Tryz
set_option linter.unusedVariables false
set_option maxRecDepth 100000
def vw(C:fA):aj (Bool):=(cy C.state 0 2).bind λD=>bif D then (cy C.since 0 1000000).bind λE=>bif E then (cy C.idle 0 1000000).bind λI=>some I else some false else some false
def O2:=bx [(true,.Power)] cv (bL vw) 16 [eG] func156
def O3(I:qN)(C:fA)(D:Bool):aj (Int):=letI T:=decide (C.idle >= I.sleep);(let U:Bool -> aj (Int):=λj3=>bif j3 then some 0 else (let E:Bool -> aj (Int):=λj7=>bif j7 then some 7 else (let Y:Bool -> aj (Int):=λj8=>bif j8 then some 9 else (let L:Bool -> aj (Int):=λj9=>bif j9 then some 8 else (let O:Bool -> aj (Int):=λCc=>bif Cc then some 6 else some 0;letI u0:=O (decide (C.idle >= I.down));bif (!D)then bif (C.state==0)then u0 else (O false)else (O false));letI u1:=L T;bif (!D)then bif (C.state==0)then u1 else (L false)else (L false));bif D then (Y (C.state==2))else (Y false));letI u2:=E T;(let Z:Bool -> aj (Int):=λj5=>bif j5 then (E j5)else bif (!D)then bif (C.state==1)then u2 else (E false)else (E false);bif D then (Z (C.state==1))else (Z false)));(IX I).bind λy1=>bif (!y1)then (U true)else (vw C).bind λy2=>(U (!y2)))
def arO:=bx [(true,.tf),(true,.Power),(false,.bool)] dD (fC O3) 73 [O2,aeU] func158
abbrev afa:=((af×Int×af)×(((aa Int)×Int×Bool×af)×af))
def I9(x:afa):aj (afa⊕(((Bool×af)×(af))⊕(((af×af)×(((aa Int)×Int×Bool×af)×af))⊕Empty))):=bif x.1.2.1<(x.2.1.1.length:Int)then xI x.2.1.1 x.1.2.1 λC=>(cy C (-2) 5).bind λD=>bif (!D)then az ((false,()),())else xG (((),(W6 (x.1.2.1+1)),()),(x.2.1,()))else bf (((),()),(x.2.1,()))
def arP:KY 27 (bh f149):=⟨0,lB 0 ⟨[(1,.aG 1 0),(3,tI)],[(1,.aC Ei)],[]⟩ [(1,nP),(2,adE)] I9,lp [eG]⟩
def Af(C:dn):aj (Bool):=bP I9 (((),0,()),((C.aJ,C.wait,C.eP,()),())) (λE=>some E.1.1) λD=>(cy (D.2.1.1.length:Int) 1 8).bind λI=>bif I then (cy D.2.1.2.1 1 10000).bind λL=>some L else some false
def Ja:=cg Em cv (bL Af) 27 [eG] [arP] func149
abbrev afb:=((af×af×Int×af)×(((aa Int)×Int×Bool×af)×(aa Int)×af))
def Jb(x:afb):aj (afb⊕(((af×af)×((aa Int)×af))⊕Empty)):=letI C:=x.2.1;letI E:=az (((),()),(x.2.2.1,()));letI D:=x.1.2.2.1;letI I:=((),(),(W6 (D+1)),());bif D<(C.1.length:Int)then (Af (⟨C.1,C.2.1,C.2.2.1⟩:dn)).bind λL=>bif L then xI C.1 D λO=>bif O >= 4 then bif bD (x.2.2.1.length+([D]:aa Int).length)then xG (I,(C,(x.2.2.1++([D]:aa Int)),()))else none else xG (I,(C,x.2.2.1,()))else E else E
def arQ:KY 28 (bh f230):=⟨0,lB 0 ⟨adT,[(1,.aC Ei),(5,.sl .int 2)],[]⟩ [(2,Wc)] Jb,lp [Ja]⟩
def Jc(C:dn):aj ((aa Int)):=br Jb (((),(),0,()),((C.aJ,C.wait,C.eP,()),([]:aa Int),())) λD=>some D.2.1
def afc:=cg Em mc (bL Jc) 28 [] [arQ] func230
def Cm(C:av):aj (Bool):=bif (C.queue.length:Int) > 0 then some true else bif (C.pending.length:Int) > 0 then some true else (Jc C.aS).bind λD=>some ((D.length:Int) > 0)
def WY:iR:=gP [(false,.lT)] [(false,.bool,0)] (λx=>Cm x.1)
def afd:enters Tryz.prog 159/\iu Tryz.prog 159 WY:=kp 26 [afc] func159
abbrev afe:=((af×af×Int×af)×(((aa di)×Int×af)×(aa Int)×af))
def EP(x:afe):aj (afe⊕(((af×af)×((aa Int)×af))⊕Empty)):=letI C:=x.1.2.2.1;letI D:=((),(),(W6 (C+1)),());bif C<(x.2.1.1.length:Int)then xI x.2.1.1 C λE=>bif E.open_ then bif bD (x.2.2.1.length+([C]:aa Int).length)then xG (D,(x.2.1,(x.2.2.1++([C]:aa Int)),()))else none else xG (D,(x.2.1,x.2.2.1,()))else az (((),()),(x.2.2.1,()))
def arR:KY 24 (bh f245):=⟨0,lB 0 ⟨adT,[(1,.aC zK),(5,.sl .int 2)],[]⟩ [(2,Wc)] EP,lp []⟩
def Jd(C:bU):aj ((aa Int)):=br EP (((),(),0,()),((C.aA,C.aT,()),([]:aa Int),())) λD=>some D.2.1
def aff:=cg [(true,.gX)] mc (bL Jd) 24 [] [arR] func245
def O4(D:bU)(C:aE):aj (Bool):=letI E:=D.aT==0;letI O:=bif E then xI D.aA C.ay λU=>some (!U.open_)else some false;letI I:=bif E then xI D.aA C.ay λY=>some Y.open_ else some false;letI L:=bif (C.kind==6)then some E else bif (C.kind==8)then bif E then (Jd D).bind λZ=>some ((Z.length:Int)==0)else some false else bif (C.kind==7)then some (D.aT==1)else some (D.aT==2);letI T:=bif (C.kind==2)then bif (C.kind==2)then I else L else bif (C.kind==3)then bif (C.kind==3)then I else L else bif (C.kind==4)then I else L;bif (C.kind==1)then bif (C.kind==1)then O else T else bif (C.kind==5)then O else T
def arS:=bx [(true,.gX),(true,.Command)] cv (bY O4) 63 [aff] func231
def Je(C:ck)(D E:Int):aj (Int):=letI O:=some (W6 (C.wr+C.rp));letI T:=some (W6 (C.jl+C.rp));letI U:=some (W6 (C.gG+C.rp));letI L:=E==5;letI I:=E==4;(Cj C).bind λY=>bif (!Y)then some 0 else bif (E==1)then bif (D==1)then bif (E==2)then some C.kJ else bif (E==3)then some C.kJ else bif I then some C.gG else U else bif (D==2)then bif I then some C.jl else T else bif (D==3)then bif I then some C.wr else O else bif (D==4)then some C.rp else bif (D==5)then some C.n6 else some 0 else bif (D==1)then bif (E==2)then some C.kJ else bif (E==3)then some C.kJ else bif I then some C.gG else bif L then U else some 0 else bif (D==2)then bif I then some C.jl else bif L then T else some 0 else bif (D==3)then bif I then some C.wr else bif L then O else some 0 else bif (D==4)then bif L then some C.rp else some 0 else bif (D==5)then bif L then some C.n6 else some 0 else some 0
def afg:=bx [(true,.jn),(false,.int),(false,.int)] dD (fC Je) 57 [OM] func327
def O5(C:Bool)(D E:Int):aj (Int):=bif C then some D else some E
def arT:=bx [(false,.bool),(false,.int),(false,.int)] dD (fC O5) 10 [] func342
def Jf(C:ck)(D E:Int)(I:Bool):aj (Int):=(let L:Bool -> aj (Int):=λj4=>bif j4 then some 0 else bif (D==7)then some C.xp else bif (D==9)then some C.xs else (let O:Bool -> aj (Int):=λj6=>bif j6 then some C.oK else (let U:Bool -> aj (Int):=λj7=>bif j7 then (O5 I C.kK C.nW).bind λy8=>some y8 else (let T:Bool -> aj (Int):=λj9=>bif j9 then (O5 I C.nY C.nX).bind λlM=>some lM else (let Y:Bool -> aj (Int):=λWN=>bif WN then (O5 I C.n5 C.nZ).bind λhU=>some hU else (let Z:Bool -> aj (Int):=λCd=>bif Cd then some C.qM else (let zW:Bool -> aj (Int):=λWZ=>bif WZ then some C.kK else (let zX:Bool -> aj (Int):=λEC=>bif EC then some C.jl else (let zY:Bool -> aj (Int):=λJg=>bif Jg then some C.wr else bif (E==8)then (Je C D 1).bind λjL=>some jL else some 0;bif (E==6)then (zY (D==3))else (zY false));bif (E==6)then (zX (D==2))else (zX false));bif (D==5)then (zW (E==5))else (zW false));bif (D==2)then (Z (E==3))else (Z false));bif (D==3)then (Y (E==2))else (Y false));bif (D==E)then bif (D==2)then (T true)else (T (D==3))else (T false));bif (D==1)then (U (E==1))else (U false));letI u0:=bif (D==8)then (O (E==9))else (O false);bif (D==6)then bif (E==7)then (O true)else u0 else u0);(Cj C).bind λy1=>bif (!y1)then (L true)else (cy D 1 9).bind λy2=>bif (!y2)then (L true)else (cy E 1 9).bind λy3=>(L (!y3)))
def arU:=bx adz dD (nO Jf) 135 [eG,OM,afg,arT] func326
def Ag(L:aI)(U:ck)(D C:aE):aj (Int):=letI Y:=Je U D.kind C.kind;letI Z:=Jf U D.kind C.kind false;bif D.kind <= 5 then bif C.kind <= 5 then if L.aA=0 then none else if L.aA=0 then none else (Jf U D.kind C.kind ((W6 (D.ay.tdiv L.aA))==(W6 (C.ay.tdiv L.aA)))).bind λE=>letI u1:=some (if 1 > E then 1 else E);bif C.kind <= 5 then bif (D.ay==C.ay)then Y.bind λO=>some (if 1 > (if O > E then O else E)then 1 else (if O > E then O else E))else u1 else u1 else Z.bind λI=>letI u2:=some (if 1 > I then 1 else I);bif C.kind <= 5 then bif (D.ay==C.ay)then Y.bind λT=>some (if 1 > (if T > I then T else I)then 1 else (if T > I then T else I))else u2 else u2 else Z.bind λy5=>some (if 1 > y5 then 1 else y5)
def arV:=bx adA dD (nO Ag) 57 [arU,afg] func300
abbrev afh:=((af×af×af×af×Int×Int×af)×((Int×Int×Int×Int×af)×ck×((aa Int)×(aa Int)×af)×(Int×Int×Int×Int×af)×af))
def Jh(x:afh):aj (afh⊕(((af×af×af×Int×af)×(ck×((aa Int)×(aa Int)×af)×(Int×Int×Int×Int×af)×af))⊕Empty)):=letI E:=x.2.2.2.1;letI U:=(⟨x.2.1.1,x.2.1.2.1,x.2.1.2.2.1,x.2.1.2.2.2.1⟩:aI);letI I:=x.2.2.2.2.1;letI Y:=(⟨I.1,I.2.1,I.2.2.1,I.2.2.2.1⟩:aE);letI L:=(x.2.1,x.2.2.1,E,I,());letI C:=x.1.2.2.2.2;letI D:=C.2.1;letI O:=W6 (D+1);letI T:=W6 ((D.tmod 9)+1);bif D<(E.1.length:Int)then xI E.1 D λe2=>bif e2<0 then xG (((),(),(),(),C.1,O,()),L)else bif T <= 5 then xI E.1 D λe4=>(Ag U x.2.2.1 (⟨T,(W6 (D.tdiv 9)),0,0⟩:aE) Y).bind λy5=>letI u8:=W6 (e4+y5);xG (((),(),(),(),(if u8 > C.1 then u8 else C.1),O,()),L)else xI E.1 D λe7=>(Ag U x.2.2.1 (⟨T,0,0,0⟩:aE) Y).bind λy8=>letI Z:=W6 (e7+y8);xG (((),(),(),(),(if Z > C.1 then Z else C.1),O,()),L)else az (((),(),(),C.1,()),(x.2.2.1,E,I,()))
def arW:KY 67 (bh f232):=⟨0,lB 0 ⟨[(4,.aG 4 0),(5,.aG 5 0),(6,.aG 6 0),(7,.aG 7 0),(9,tI),(10,tI)],adw,[]⟩ [(2,ac7)] Jh,lp [arV]⟩
def O6(D:aI)(T:ck)(L:cZ)(E:aE):aj (Int):=br Jh (((),(),(),(),0,0,()),((D.bK,D.aA,D.rows,D.aL,()),T,(L.last,L.aU,()),(E.kind,E.ay,E.row,E.bO,()),())) λC=>letI I:=C.1.2.2.2.1;bif (C.2.2.2.1.1==1)then bif ((C.2.2.1.2.1.length:Int)==4)then xI C.2.2.1.2.1 (0:Int) λU=>letI O:=W6 (U+C.2.1.iN);some (if O > C.1.2.2.2.1 then O else I)else some I else some I
def arX:=cg adB dD (nO O6) 67 [] [arW] func232
def Cn(C:av)(D:aE):aj (Bool):=(O4 C.aY D).bind λI=>bif (!I)then some false else (O6 C.config.ax C.config.bX C.ready D).bind λE=>bif E <= 1000000 then some (E <= C.now)else some false
def O7:=bx [(false,.lT),(true,.Command)] cv (bY Cn) 39 [arS,arX] func160
abbrev afi:=((av×(aa aE)×af×Int×af)×((Int×Int×Int×Int×af)×af))
def Co(x:afi):aj (afi⊕(((af×Bool×af)×((Int×Int×Int×Int×af)×af))⊕(((af×af)×((Int×Int×Int×Int×af)×af))⊕Empty))):=letI C:=x.1.2.2.2.1;bif C<(x.1.2.1.length:Int)then xI x.1.2.1 C λE=>(Cn x.1.1 E).bind λI=>bif I then xI x.1.2.1 C λD=>az (((),true,()),((D.kind,D.ay,D.row,D.bO,()),()))else xG ((x.1.1,x.1.2.1,(),(W6 (C+1)),()),(x.2.1,()))else bf (((),()),(x.2.1,()))
def arY:KY 24 (bh f161):=⟨0,lB 0 ⟨[(0,.fp .cO 0),(1,.lf (.aH .Command 0)),(4,.aG 4 0),(6,tI)],[(4,.aC eK)],[]⟩ [(1,⟨[(4,.aG 4 0),(5,tB)],[(4,.aC eK)],[]⟩),(2,⟨[(4,.aG 4 0)],[(4,.aC eK)],[]⟩)] Co,lp [O7]⟩
def Ji(D:av)(E:aa aE):aj (aE×Bool):=bP Co ((D,E,(),0,()),((0,0,0,0,()),())) (λC=>some ((⟨C.2.1.1,C.2.1.2.1,C.2.1.2.2.1,C.2.1.2.2.2.1⟩:aE),C.1.2.1)) λI=>some ((⟨0,0,0,0⟩:aE),false)
def arZ:=cg [(false,.lT),(false,(.sl .Command))] [(true,.Command,0),(false,.bool,0)] (bY Ji) 24 [] [arY] func161
def Cp(C:av)(D:Int):aj (Bool):=xI C.aS.aJ D λE=>some (E >= 4)
def O8:=bx [(false,.lT),(false,.int)] cv (bY Cp) 14 [] func233
def ER(D:av)(C:aE):aj (aE):=xI D.aY.aA C.ay λE=>bif E.open_ then some (⟨4,C.ay,0,0⟩:aE)else some C
def W0:=bx [(false,.lT),(true,.Command)] H7 (bY ER) 19 [] func234
abbrev afj:=(((aa aM)×Int×Int×af)×(af))
def ES(x:afj):aj (afj⊕(((Bool×af)×(af))⊕(((af)×(af))⊕Empty))):=bif x.1.2.2.1<(x.1.1.length:Int)then xI x.1.1 x.1.2.2.1 λC=>bif (C.ay==x.1.2.1)then az ((true,()),())else xG ((x.1.1,x.1.2.1,(W6 (x.1.2.2.1+1)),()),())else bf ((),())
def ar0:KY 19 (bh f235):=⟨0,lB 0 ⟨[(0,.lf (.aH .Addr 0)),(1,tI),(5,tI)],[],[]⟩ [(1,jK),(2,gx)] ES,lp []⟩
def ET(C:aa aM)(D:Int):aj (Bool):=bP ES ((C,D,0,()),()) (λE=>some E.1.1) λI=>some false
def W2:=cg [(false,(.sl .Addr)),(false,.int)] cv (bY ET) 19 [] [ar0] func235
abbrev afk:=((av×af×Int×af)×((aa aE)×af))
def Jj(x:afk):aj (afk⊕(((av×af×af)×((aa aE)×af))⊕Empty)):=letI C:=x.1.2.2.1;letI D:=(x.1.1,(),(W6 (C+1)),());bif C<(x.1.1.aS.aJ.length:Int)then (Cp x.1.1 C).bind λI=>bif I then (ER x.1.1 (⟨5,C,0,0⟩:aE)).bind λE=>bif bD (x.2.1.length+([E]:aa aE).length)then xG (D,((x.2.1++([E]:aa aE)),()))else none else xG (D,(x.2.1,()))else az ((x.1.1,(),()),(x.2.1,()))
def ar1:KY 72 (bh f162):=⟨0,lB 0 ⟨[(0,.fp .cO 0),(3,.lf (.own 7)),(4,tI)],N3,[]⟩ [(2,⟨[(0,.fp .cO 0),(3,.lf (.own 7))],N3,[]⟩)] Jj,lp [O8,W0]⟩
abbrev afl:=((av×af×Int×af)×((aa aE)×af))
def Jk(x:afl):aj (afl⊕(((af×af)×((aa aE)×af))⊕Empty)):=letI C:=x.1.1;letI D:=x.1.2.2.1;letI I:=(C,(),(W6 (D+1)),());bif D<(C.pending.length:Int)then xI C.pending D λE=>(Cp C E.ay).bind λO=>bif (!O)then if 0 <= (0:Int)/\0 <= D/\D <= (C.pending.length:Int)then (ET ((C.pending.take D.toNat).drop (0:Int).toNat) E.ay).bind λT=>bif (!T)then (ER C (⟨1,E.ay,E.row,0⟩:aE)).bind λL=>bif bD (x.2.1.length+([L]:aa aE).length)then xG (I,((x.2.1++([L]:aa aE)),()))else none else xG (I,(x.2.1,()))else none else xG (I,(x.2.1,()))else az (((),()),(x.2.1,()))
def ar2:KY 72 (bh f162):=⟨2,lB 2 ⟨[(0,.fp .cO 0),(3,.lf (.own 7)),(5,tI)],N3,[]⟩ [(4,⟨[(3,.lf (.own 7))],N3,[]⟩)] Jk,lp [O8,W0,W2]⟩
def O9(D:av):aj ((aa aE)):=br Jj ((D,(),0,()),(([]:aa aE),())) λC=>br Jk ((C.1.1,(),0,()),(C.2.1,())) λE=>some E.2.1
def ar3:=cg [(false,.lT)] [(false,(.sl .Command),2)] (bL O9) 72 [] [ar1,ar2] func162
def Pa(C:aI)(E:nt)(I:Int):aj (aM×Bool):=letI u6:=some ((⟨0,0,0⟩:aM),false);letI O:=I.tmod C.aL;letI L:=W6 (I.tdiv C.aL);letI T:=L.tmod C.rows;(EK E).bind λy1=>bif (!y1)then u6 else (qi C).bind λy2=>(cy I 0 (W6 (y2-1))).bind λy3=>bif (!y3)then u6 else (kP C).bind λD=>letI U:=W6 (L.tdiv D);letI Y:=W6 (I.tdiv D);letI Z:=W6 (Y.tdiv C.aL);bif (E.order==0)then if C.aL=0 then none else if C.aL=0 then none else if D=0 then none else if C.aL=0 then none else if D=0 then none else bif E.hash then if D=0 then none else some ((⟨((W6 ((L.tmod D)+U)).tmod D),U,O⟩:aM),true)else some ((⟨(L.tmod D),U,O⟩:aM),true)else bif (E.order==1)then if D=0 then none else if D=0 then none else if C.aL=0 then none else if D=0 then none else if C.aL=0 then none else bif E.hash then if D=0 then none else some ((⟨((W6 ((I.tmod D)+Z)).tmod D),Z,(Y.tmod C.aL)⟩:aM),true)else some ((⟨(I.tmod D),Z,(Y.tmod C.aL)⟩:aM),true)else if C.aL=0 then none else if C.aL=0 then none else if C.rows=0 then none else if C.aL=0 then none else if C.rows=0 then none else bif E.hash then if D=0 then none else some ((⟨((W6 ((W6 (L.tdiv C.rows))+T)).tmod D),T,O⟩:aM),true)else some ((⟨(W6 (L.tdiv C.rows)),T,O⟩:aM),true)
def ar4:=bx [(true,.fo),(true,.r4),(false,.int)] Wo (fC Pa) 94 [eG,Ch,ko,aeT] func328
def xB(C:av)(I:Int):aj (aM):=letI E:=W6 (C.config.ax.rows-C.config.bM);(Pa (⟨C.config.ax.bK,C.config.ax.aA,E,C.config.ax.aL⟩:aI) C.config.mapping I).bind λD=>xI C.spare.map (W6 ((W6 (D.1.ay*E))+D.1.row)) λL=>some (⟨D.1.ay,L,D.1.bO⟩:aM)
def Pb:iR:=gP [(false,.lT),(false,.int)] [(true,.Addr,0)] (λx=>xB x.1 x.2.1)
def W3:enters Tryz.prog 301/\iu Tryz.prog 301 Pb:=kp 50 [ar4] func301
abbrev afm:=((av×af×Int×af)×((aa aM)×af))
def Jl(x:afm):aj (afm⊕(((af×af)×((aa aM)×af))⊕Empty)):=bif x.1.2.2.1<(x.1.1.queue.length:Int)then xI x.1.1.queue x.1.2.2.1 λD=>(xB x.1.1 D.line).bind λC=>bif bD (x.2.1.length+([C]:aa aM).length)then xG ((x.1.1,(),(W6 (x.1.2.2.1+1)),()),((x.2.1++([C]:aa aM)),()))else none else az (((),()),(x.2.1,()))
def ar5:KY 29 (bh f236):=⟨0,lB 0 ⟨[(0,.fp .cO 0),(3,.lf (.own 5)),(4,tI)],[(5,.sl .Addr 2)],[]⟩ [(2,⟨[(3,.lf (.own 5))],[(5,.sl .Addr 2)],[]⟩)] Jl,lp [⟨301,.p Pb,W3⟩]⟩
def Jm(C:av):aj ((aa aM)):=br Jl ((C,(),0,()),(([]:aa aM),())) λD=>some D.2.1
def afn:=cg [(false,.lT)] [(false,(.sl .Addr),2)] (bL Jm) 29 [] [ar5] func236
abbrev afo:=(((aa aZ)×Int×Int×af)×(af))
def EU(x:afo):aj (afo⊕(((Bool×af)×(af))⊕(((af)×(af))⊕Empty))):=letI C:=x.1.2;bif C.2.1<C.1 then bif C.1<(x.1.1.length:Int)then xI x.1.1 C.2.1 λD=>xI x.1.1 C.1 λE=>bif (D.line==E.line)then az ((true,()),())else xG ((x.1.1,C.1,(W6 (C.2.1+1)),()),())else bf ((),())else bf ((),())
def ar6:KY 28 (bh f302):=⟨0,lB 0 adq [(1,jK),(2,gx)] EU,lp []⟩
def Jn(C:aa aZ)(D:Int):aj (Bool):=bP EU ((C,D,0,()),()) (λE=>some E.1.1) λI=>some false
def afp:=cg NZ cv (bY Jn) 28 [] [ar6] func302
def Pc(C:jc)(D:Int)(E:Bool):aj (Bool):=(Cl C).bind λI=>bif (!I)then some false else bif E then bif C.on then some true else some (D<1)else some (!C.on)
def ar7:=bx [(true,.qO),(false,.int),(false,.bool)] cv (fC Pc) 20 [OO] func303
abbrev afq:=((av×Int×Int×Int×af)×(af))
def Jo(x:afq):aj (afq⊕(((av×Int×Int×af)×(af))⊕Empty)):=letI D:=x.1.1;letI C:=x.1.2.2;letI E:=W6 (C.2.1+1);bif C.2.1<(D.queue.length:Int)then (Jn D.queue C.2.1).bind λI=>bif I then xG ((D,x.1.2.1,C.1,E,()),())else xI D.queue C.2.1 λL=>bif L.write then xG ((D,x.1.2.1,(W6 (C.1+1)),E,()),())else xG ((D,(W6 (x.1.2.1+1)),C.1,E,()),())else az ((D,x.1.2.1,C.1,()),())
def ar8:KY 82 (bh f237):=⟨0,lB 0 ⟨[(0,.fp .cO 0),(3,tI),(4,tI),(5,tI)],[],[]⟩ [(2,⟨[(0,.fp .cO 0),(3,tI),(4,tI)],[],[]⟩)] Jo,lp [afp]⟩
abbrev afr:=((av×Int×Int×af×Int×af)×((aa Bool)×af))
def Jp(x:afr):aj (afr⊕(((af×af)×((aa Bool)×af))⊕Empty)):=letI C:=x.2.1;letI I:=([(x.1.2.2.1==0)]:aa Bool);letI D:=x.1.2.2.2.2.1;letI E:=(x.1.1,x.1.2.1,x.1.2.2.1,(),(W6 (D+1)),());letI L:=bif bD (C.length+([false]:aa Bool).length)then xG (E,((C++([false]:aa Bool)),()))else none;bif D<(x.1.1.queue.length:Int)then xI x.1.1.queue D λO=>(Jn x.1.1.queue D).bind λT=>bif (!T)then (Pc x.1.1.drain x.1.2.1 O.write).bind λU=>bif U then bif bD (C.length+([true]:aa Bool).length)then xG (E,((C++([true]:aa Bool)),()))else none else bif (!O.write)then bif bD (C.length+I.length)then xG (E,((C++I),()))else none else L else L else az (((),()),(C,()))
def ar9:KY 82 (bh f237):=⟨2,lB 2 ⟨[(0,.fp .cO 0),(3,tI),(4,tI),(6,.lf (.own 36)),(7,tI)],[(36,.sl .bool 2)],[]⟩ [(4,⟨[(6,.lf (.own 36))],[(36,.sl .bool 2)],[]⟩)] Jp,lp [afp,ar7]⟩
def Pd(D:av):aj ((aa Bool)):=br Jo ((D,0,0,0,()),()) λC=>br Jp ((C.1.1,C.1.2.1,C.1.2.2.1,(),0,()),(([]:aa Bool),())) λE=>some E.2.1
def asa:=cg [(false,.lT)] [(false,(.sl .bool),2)] (bL Pd) 82 [] [ar8,ar9] func237
def Pe(C:bU)(D:Int):aj (Int):=(cy D 0 (W6 ((C.aA.length:Int)-1))).bind λE=>bif (!E)then some (-1)else xI C.aA D λI=>bif (!I.open_)then some (-1)else xI C.aA D λL=>some L.row
def asb:=bx [(true,.gX),(false,.int)] dD (bY Pe) 27 [eG] func304
def Jq(D:bU)(C:aM):aj (Bool):=(Pe D C.ay).bind λE=>bif (E==C.row)then (Pe D C.ay).bind λI=>some (I != (-1))else some false
def afs:=bx [(true,.gX),(true,.Addr)] cv (bY Jq) 19 [asb] func239
def Ah(D:bU)(C:aM)(I:Bool):aj (aE):=letI E:=some (⟨1,C.ay,C.row,0⟩:aE);(cy C.ay 0 (W6 ((D.aA.length:Int)-1))).bind λL=>bif (!L)then E else xI D.aA C.ay λO=>bif (!O.open_)then E else xI D.aA C.ay λT=>bif (T.row != C.row)then some (⟨4,C.ay,0,0⟩:aE)else bif I then some (⟨3,C.ay,0,C.bO⟩:aE)else some (⟨2,C.ay,0,C.bO⟩:aE)
def W4:=bx [(true,.gX),(true,.Addr),(false,.bool)] H7 (fC Ah) 54 [eG] func242
abbrev aft:=((av×(aa aM)×(aa Bool)×af×Int×af)×((Int×Int×Int×af)×af))
def EV(x:aft):aj (aft⊕(((Bool×af)×(af))⊕(((af)×(af))⊕Empty))):=letI C:=x.1.2;letI D:=C.2.2.2.1;letI E:=xG ((x.1.1,C.1,C.2.1,(),(W6 (D+1)),()),(x.2.1,()));bif D<(C.1.length:Int)then xI C.2.1 D λI=>bif I then xI C.1 D λL=>bif (L.ay==x.2.1.1)then xI C.1 D λO=>(Jq x.1.1.aY O).bind λT=>bif T then az ((false,()),())else E else E else E else bf ((),())
def asc:KY 120 (bh f238):=⟨0,lB 0 ⟨[(0,.fp .cO 0),(1,.lf (.aH .Addr 0)),(2,.lf (.aH .bool 0)),(9,.aG 9 0),(12,tI)],[(9,.aC HY)],[]⟩ [(1,⟨[(8,tB)],[],[]⟩),(2,gx)] EV,lp [afs]⟩
def Pf(C:av)(L:aa aM)(O:aa Bool)(E:Int):aj (Bool):=xI L E λD=>(let T:Bool -> aj (Bool):=λj6=>bif j6 then some false else xI C.queue E λe9=>(Ah C.aY D e9.write).bind λI=>(Cn C I).bind λgK=>bif (!gK)then some false else (let U:Bool -> aj (Bool):=λID=>(let Y:Bool -> aj (Bool):=λWZ=>bif WZ then some false else (let Z:Bool -> aj (Bool):=λCi=>bif Ci then some true else bP EV ((C,L,O,(),0,()),((D.ay,D.row,D.bO,()),())) (λW5=>some W5.1.1) (λz28=>some true);bif (I.kind != 4)then (Z true)else xI C.queue E λe17=>(Z (decide ((W6 (C.now-e17.at_)) >= C.box.bT.cap))));bif ID then (ET C.pending D.ay).bind λiV=>(Y iV)else (Y false));bif (I.kind==1)then (U true)else (U (I.kind==4)));xI O E λe4=>bif (!e4)then (T true)else (Cp C D.ay).bind λy5=>(T y5))
def asd:=cg [(false,.lT),(false,(.sl .Addr)),(false,(.sl .bool)),(false,.int)] cv (nO Pf) 120 [O7,O8,W2,W4] [asc] func238
abbrev afu:=(((aa cE)×(aa Bool)×Int×Int×af)×(af))
def afv(x:afu):aj (afu⊕(((Int×af)×(af))⊕Empty)):=letI D:=x.1.2.2.1;letI C:=x.1.2.2.2.1;letI E:=xG ((x.1.1,x.1.2.1,C,(W6 (C+1)),()),());letI I:=xG ((x.1.1,x.1.2.1,D,(W6 (C+1)),()),());bif C<(x.1.1.length:Int)then bif C<(x.1.2.1.length:Int)then xI x.1.2.1 C λL=>bif L then bif D<0 then E else xI x.1.1 C λO=>xI x.1.1 D λT=>bif O.fJ > T.fJ then E else I else I else az ((D,()),())else az ((D,()),())
def ase:KY 42 (bh f305):=⟨0,lB 0 adf [(2,xq)] afv,lp []⟩
def Pg(C:aa cE)(D:aa Bool):aj (Int):=br afv ((C,D,(-1),0,()),()) λE=>some E.1.1
def asf:=cg NW dD (bY Pg) 42 [] [ase] func305
abbrev afw:=(((aa Bool)×af×Int×af)×((aa cE)×af))
def EW(x:afw):aj (afw⊕((((aa Bool)×af×af)×((aa cE)×af))⊕Empty)):=letI C:=x.1.2.2.1;bif C<(x.2.1.length:Int)then xL x.2.1 C λD=>xL x.2.1 C λE=>xG ((x.1.1,(),(W6 (C+1)),()),((x.2.1.set C.toNat (⟨E.weight,D.weight⟩:cE)),()))else az ((x.1.1,(),()),(x.2.1,()))
def asg:KY 58 (bh f240):=⟨0,lB 0 ⟨[(1,.lf (.aH .bool 0)),(6,.lf (.own 9)),(8,tI)],[(9,.sl .gw 2)],[]⟩ [(2,adk)] EW,lp []⟩
def Jr(L:aa cE)(O:aa Bool):aj ((aa cE)×Int):=letI C:=xA L;bif xZ L then (EL L).bind λT=>bif (!T)then some (C,(-1))else (Pg C O).bind λD=>bif D<0 then some (C,(-1))else xC C D (if U:D.toNat<C.length then (let Y:=C[D.toNat]'U;bif (Y.fJ==0)then br EW ((O,(),0,()),(C,())) λE=>(Pg E.2.1 E.1.1).bind λI=>xL E.2.1 I λZ=>xL E.2.1 I λJs=>some ((E.2.1.set I.toNat (⟨Js.weight,(W6 (Z.fJ-1))⟩:cE)),I)else xC C D (if vA:D.toNat<C.length then (let W7:=C[D.toNat]'vA;xC C D (if Ph:D.toNat<C.length then (let xD:=C[D.toNat]'Ph;some ((C.set D.toNat (⟨xD.weight,(W6 (W7.fJ-1))⟩:cE)),D))else none))else none))else none)else none
def afx:=cg NW [(false,(.sl .gw),2),(false,.int,0)] (bY Jr) 58 [WT,asf] [asg] func240
abbrev afy:=(((aa aZ)×(aa Bool)×(aa Bool)×Int×Int×Int×Int×Int×af)×(af))
def Jt(x:afy):aj (afy⊕(((Int×af)×(af))⊕Empty)):=letI I:=x.1.1;letI L:=x.1.2.1;letI E:=x.1.2.2;letI u8:=E.2.1;letI D:=E.2.2;letI Y:=az ((D.2.1,()),());letI O:=D.2.2.1;letI C:=D.2.2.2.1;letI T:=W6 (C+1);letI U:=xG ((I,L,E.1,u8,D.1,D.2.1,O,T,()),());letI Z:=bif 3 > O then xG ((I,L,E.1,u8,D.1,C,3,T,()),())else U;letI u1:=xI I C λqj=>bif qj.at_ <= (W6 (D.1-u8))then Z else bif 1 > O then xG ((I,L,E.1,u8,D.1,C,1,T,()),())else U;bif C<(I.length:Int)then bif C<(L.length:Int)then xI L C λe4=>bif (!e4)then U else bif C<(E.1.length:Int)then xI E.1 C λe6=>bif e6 then xI I C λe8=>bif e8.at_ <= (W6 (D.1-u8))then Z else bif 2 > O then xG ((I,L,E.1,u8,D.1,C,2,T,()),())else U else u1 else u1 else Y else Y
def ash:KY 65 (bh f241):=⟨0,lB 0 ⟨[(0,.lf (.aH .dM 0)),(1,.lf (.aH .bool 0)),(2,.lf (.aH .bool 0)),(3,tI),(4,tI),(11,tI),(12,tI),(13,tI)],[],[]⟩ [(2,⟨[(11,tI)],[],[]⟩)] Jt,lp []⟩
def Pj(E:aa aZ)(I L:aa Bool)(C D:Int):aj (Int):=(cy C 0 1000000).bind λO=>bif (!O)then some (-1)else (cy D 0 1000000).bind λT=>bif (!T)then some (-1)else br Jt ((E,I,L,C,D,(-1),0,0,()),()) λU=>some U.1.1
def asi:=cg adh dD (HR Pj) 65 [eG] [ash] func241
def asj:bG:=⟨[(0,.fp .cO 0),(2,.aG 2 0),(4,.lf (.own 1000000000116000)),(5,.lf (.own 1000000000118000)),(6,.lf (.own 19)),(7,.lf (.own 20)),(8,.lf (.own 21)),(9,tI)],[(2,.aC eK),(1000000000116000,.sl .Addr 2),(1000000000118000,.sl .bool 2),(19,.sl .bool 2),(20,.sl .bool 2),(21,.sl .bool 2)],[]⟩
def asl:aa (Nat×bG):=[(2,⟨[(0,.fp .cO 0),(2,.aG 2 0),(4,.lf (.own 1000000000116000)),(6,.lf (.own 19)),(7,.lf (.own 20)),(8,.lf (.own 21))],[(2,.aC eK),(1000000000116000,.sl .Addr 2),(19,.sl .bool 2),(20,.sl .bool 2),(21,.sl .bool 2)],[]⟩)]
abbrev afz:=((av×af×af×af×af×af×af×Int×af)×((Int×Int×Int×Int×af)×(aa aM)×(aa Bool)×(aa Bool)×(aa Bool)×(aa Bool)×af))
def Ju(x:afz):aj (afz⊕(((av×af×af×af×af×af×af)×((Int×Int×Int×Int×af)×(aa aM)×(aa Bool)×(aa Bool)×(aa Bool)×af))⊕Empty)):=letI C:=x.2.2;letI D:=C.2.2;letI I:=D.2.2.1;letI E:=x.1.2.2.2.2.2.2.2.1;letI T:=(x.1.1,(),(),(),(),(),(),(W6 (E+1)),());bif E<(C.1.length:Int)then (Pf x.1.1 C.1 C.2.1 E).bind λU=>letI L:=([U]:aa Bool);bif bD (D.1.length+L.length)then xL C.1 E λZ=>(Jq x.1.1.aY Z).bind λy7=>letI O:=([y7]:aa Bool);bif bD (D.2.1.length+O.length)then bif U then xI x.1.1.queue E λY=>xL I Y.dL λrI=>xG (T,(x.2.1,C.1,C.2.1,(D.1++L),(D.2.1++O),(I.set Y.dL.toNat true),()))else xG (T,(x.2.1,C.1,C.2.1,(D.1++L),(D.2.1++O),I,()))else none else none else az ((x.1.1,(),(),(),(),(),()),(x.2.1,C.1,D.1,D.2.1,I,()))
def asm:KY 132 (bh f163):=⟨0,lB 0 asj asl Ju,lp [asd,afs]⟩
abbrev afA:=((av×af×af×af×af×Int×Int×af)×((Int×Int×Int×Int×af)×(aa aM)×(aa Bool)×(aa Bool)×af))
def Jv(x:afA):aj (afA⊕(((av×af×af×af×af×af)×((Int×Int×Int×Int×af)×(aa aM)×(aa Bool)×(aa Bool)×af))⊕Empty)):=letI C:=x.2.2.2;letI E:=x.1.2.2.2.2.2;letI D:=E.2.1;letI I:=(x.1.1,(),(),(),(),E.1,(W6 (D+1)),());bif D<(x.2.2.1.length:Int)then xL C.1 D λL=>bif L then xI x.1.1.queue D λO=>xL C.1 D λT=>xG (I,(x.2.1,x.2.2.1,(C.1.set D.toNat (O.dL==E.1)),C.2.1,()))else xL C.1 D λU=>xG (I,(x.2.1,x.2.2.1,(C.1.set D.toNat false),C.2.1,()))else az ((x.1.1,(),(),(),(),()),(x.2.1,x.2.2.1,C.1,C.2.1,()))
def asn:KY 132 (bh f163):=⟨2,lB 2 ⟨[(0,.fp .cO 0),(2,.aG 2 0),(4,.lf (.own 1000000000116000)),(6,.lf (.own 19)),(7,.lf (.own 20)),(12,tI),(13,tI)],adj,[]⟩ [(4,⟨[(0,.fp .cO 0),(2,.aG 2 0),(4,.lf (.own 1000000000116000)),(6,.lf (.own 19)),(7,.lf (.own 20))],adj,[]⟩)] Jv,lp []⟩
def Pm(L:av):aj (aE×Int):=(Jm L).bind λO=>(Pd L).bind λT=>if 0 <= (4:Int)/\(4:Int) <= 4/\(4:Int)<1073741824 then br Ju ((L,(),(),(),(),(),(),0,()),((0,0,0,0,()),O,T,([]:aa Bool),([]:aa Bool),(List.replicate (4:Int).toNat false),())) λC=>(Jr C.1.1.shares C.2.2.2.2.2.1).bind λU=>br Jv ((C.1.1,(),(),(),(),U.2,0,()),(C.2.1,C.2.2.1,C.2.2.2.1,C.2.2.2.2.1,())) λE=>letI D:=E.1.1;(Pj D.queue E.2.2.2.1 E.2.2.2.2.1 D.box.bT.cap D.now).bind λI=>bif I<0 then some ((⟨0,0,0,0⟩:aE),(-1))else xL E.2.2.1 I λY=>xI D.queue I λZ=>(Ah D.aY Y Z.write).bind λEX=>some (EX,I)else none
def aso:=cg [(false,.lT)] [(true,.Command,0),(false,.int,0)] (bL Pm) 132 [afn,asa,afx,asi,W4] [asm,asn] func163
abbrev afB:=(((aa Bool)×af×Bool×Int×Int×af)×(((aa Int)×Int×Bool×af)×af))
def Jw(x:afB):aj (afB⊕(((Int×af)×(af))⊕Empty)):=letI E:=x.2.1.1;letI D:=x.1.2.2;letI C:=D.2.2.1;letI L:=xG ((x.1.1,(),D.1,C,(W6 (C+1)),()),(x.2.1,()));letI I:=xG ((x.1.1,(),D.1,D.2.1,(W6 (C+1)),()),(x.2.1,()));letI O:=bif D.2.1<0 then L else xI E C λT=>xI E D.2.1 λU=>bif T > U then L else I;bif C<(E.length:Int)then xI E C λY=>bif (!D.1)then xI E C λZ=>bif Z > 0 then bif C<(x.1.1.length:Int)then xI x.1.1 C λe8=>bif e8 then O else I else I else I else bif Y >= 4 then O else I else az ((D.2.1,()),())
def asp:KY 69 (bh f243):=⟨0,lB 0 ⟨[(1,.lf (.aH .bool 0)),(2,.aG 2 0),(5,tB),(6,tI),(7,tI)],[(2,.aC Ei)],[]⟩ [(2,HZ)] Jw,lp []⟩
def Pn(C:dn)(D:aa Bool):aj (Int):=(Af C).bind λE=>bif (!E)then some (-1)else (Jc C).bind λI=>br Jw ((D,(),(decide ((I.length:Int) > 0)),(-1),0,()),((C.aJ,C.wait,C.eP,()),())) λL=>some L.1.1
def asq:=cg [(true,.lS),(false,(.sl .bool))] dD (bY Pn) 69 [Ja,afc] [asp] func243
abbrev afC:=(((aa aM)×af×Int×Bool×Int×af)×(((aa di)×Int×af)×af))
def EY(x:afC):aj (afC⊕((((aa aM)×af×Int×Bool×af)×(((aa di)×Int×af)×af))⊕Empty)):=letI C:=x.1.2.2;letI D:=C.2.2.1;letI E:=xG ((x.1.1,(),C.1,C.2.1,(W6 (D+1)),()),(x.2.1,()));bif D<(x.1.1.length:Int)then xI x.1.1 D λI=>bif (I.ay==C.1)then xI x.1.1 D λL=>xI x.2.1.1 C.1 λO=>bif (L.row==O.row)then xG ((x.1.1,(),C.1,true,(W6 (D+1)),()),(x.2.1,()))else E else E else az ((x.1.1,(),C.1,C.2.1,()),(x.2.1,()))
def asr:KY 56 (rF (bh f244) 0):=⟨2,lB 2 ⟨[(2,.lf (.aH .Addr 0)),(3,.aG 3 0),(7,tI),(8,tB),(9,tI)],[(3,.aC zK)],[]⟩ [(4,⟨[(2,.lf (.aH .Addr 0)),(3,.aG 3 0),(7,tI),(8,tB)],[(3,.aC zK)],[]⟩)] EY,lp []⟩
abbrev afD:=(((aa aM)×af×Int×af)×(((aa di)×Int×af)×af))
def Cq(x:afD):aj (afD⊕(((Int×af)×(af))⊕(((af)×(af))⊕Empty))):=bif x.1.2.2.1<(x.2.1.1.length:Int)then xI x.2.1.1 x.1.2.2.1 λD=>br EY ((x.1.1,(),x.1.2.2.1,(!D.open_),0,()),(x.2.1,())) λC=>bif (!C.1.2.2.2.1)then az ((C.1.2.2.1,()),())else xG ((C.1.1,(),(W6 (C.1.2.2.1+1)),()),(C.2.1,()))else bf ((),())
def ass:KY 56 (bh f244):=⟨0,lB 0 ⟨[(2,.lf (.aH .Addr 0)),(3,.aG 3 0),(7,tI)],[(3,.aC zK)],[]⟩ [(1,HZ),(2,gx)] Cq,lq [] [asr]⟩
def Po(C:bU)(D:Int)(E:aa aM):aj (Int):=bif (D != 1)then some (-1)else bP Cq ((E,(),0,()),((C.aA,C.aT,()),())) (λI=>some I.1.1) λL=>some (-1)
def ast:=cg adK dD (fC Po) 56 [] [ass] func244
abbrev afE:=((av×Int×af×af×af×Int×af)×((aa aE)×(aa aM)×(aa Bool)×af))
def Jx(x:afE):aj (afE⊕(((av×Int×af×af×af×af)×((aa aE)×(aa aM)×(aa Bool)×af))⊕Empty)):=letI C:=x.1.2.2.2.2.2.1;bif C<(x.1.1.aY.aA.length:Int)then (ET x.2.2.1 C).bind λD=>bif bD (x.2.2.2.1.length+([(!D)]:aa Bool).length)then xG ((x.1.1,x.1.2.1,(),(),(),(W6 (C+1)),()),(x.2.1,x.2.2.1,(x.2.2.2.1++([(!D)]:aa Bool)),()))else none else az ((x.1.1,x.1.2.1,(),(),(),()),(x.2.1,x.2.2.1,x.2.2.2.1,()))
def asu:KY 99 (bh f164):=⟨0,lB 0 ⟨[(0,.fp .cO 0),(1,tI),(5,.lf (.own 11)),(6,.lf (.own 1000000000113000)),(7,.lf (.own 14)),(8,tI)],adp,[]⟩ [(2,⟨[(0,.fp .cO 0),(1,tI),(5,.lf (.own 11)),(6,.lf (.own 1000000000113000)),(7,.lf (.own 14))],adp,[]⟩)] Jx,lp [W2]⟩
def Pp(O:av)(x1:Int):aj ((aa aE)):=(Jm O).bind λy1=>br Jx ((O,x1,(),(),(),0,()),(([]:aa aE),y1,([]:aa Bool),())) λC=>letI D:=C.1.1;letI T:=([(⟨C.1.2.1,0,0,0⟩:aE)]:aa aE);(Pn D.aS C.2.2.2.1).bind λI=>(let U:(aa aE) -> aj ((aa aE)):=λL=>(Po D.aY D.box.bT.eU C.2.2.1).bind λY=>letI Z:=([(⟨4,Y,0,0⟩:aE)]:aa aE);(let zW:(aa aE) -> aj ((aa aE)):=λE=>(Jd D.aY).bind λhU=>(let zZ:Bool -> aj ((aa aE)):=λCd=>bif Cd then xL hU (0:Int) λxE=>letI u3:=([(⟨4,xE,0,0⟩:aE)]:aa aE);bif bD (E.length+u3.length)then some (E++u3)else none else (let zX:(aa aE) -> aj ((aa aE)):=λCi=>some Ci;letI u0:=zX (E++T);bif (C.1.2.1 != 0)then bif bD (E.length+T.length)then u0 else none else (zX E));letI u6:=zZ (decide ((hU.length:Int) > 0));bif (C.1.2.1==8)then u6 else (zZ false));letI u1:=zW (L++Z);bif Y >= 0 then bif bD (L.length+Z.length)then u1 else none else (zW L));(let k8:Bool -> aj ((aa aE)):=λj6=>bif j6 then (ER D (⟨5,I,0,0⟩:aE)).bind λy7=>letI u5:=U (C.2.1++([y7]:aa aE));bif bD (C.2.1.length+([y7]:aa aE).length)then u5 else none else (U C.2.1);bif I >= 0 then (Cp D I).bind λy5=>(k8 (!y5))else (k8 false)))
def asv:=cg [(false,.lT),(false,.int)] [(false,(.sl .Command),2)] (bY Pp) 99 [O8,W0,afn,asq,ast,aff] [asu] func164
def xF(C:av):aj (aE×Int):=letI E:=some ((⟨0,0,0,0⟩:aE),(-1));bif (C.trace.length:Int) >= 2000 then E else (Cm C).bind λO=>(O3 C.box.bT.eB C.aT O).bind λD=>bif (C.aT.state != 0)then bif (D==0)then E else (Cn C (⟨D,0,0,0⟩:aE)).bind λT=>bif (!T)then E else some ((⟨D,0,0,0⟩:aE),(-1))else (O9 C).bind λU=>(Ji C U).bind λL=>bif L.2 then some (L.1,(-1))else (Pm C).bind λI=>bif I.2 >= 0 then some (I.1,I.2)else (Pp C D).bind λY=>(Ji C Y).bind λZ=>some (Z.1,(-1))
def afF:KX:=⟨67,.q (gP [(false,.lT)] [(true,.Command,0),(false,.int,0)] λx=>xF x.1),kp 77 [arO,⟨159,.p WY,afd⟩,O7,arZ,ar3,aso,asv] func67⟩
def Jy(C:jc)(D:Int):aj (jc):=letI E:=some (⟨false,C.low,C.high⟩:jc);(Cl C).bind λI=>bif (!I)then some C else bif D >= C.high then bif D <= C.low then E else some (⟨true,C.low,C.high⟩:jc)else bif D <= C.low then E else some C
def asw:=bx [(true,.qO),(false,.int)] [(true,.qO,0)] (bY Jy) 20 [OO] func313
abbrev afG:=(((aa aZ)×Bool×Int×Int×af)×(af))
def Jz(x:afG):aj (afG⊕(((Int×af)×(af))⊕Empty)):=letI C:=x.1.2.2;bif C.2.1<(x.1.1.length:Int)then xI x.1.1 C.2.1 λD=>bif (D.write==x.1.2.1)then xG ((x.1.1,x.1.2.1,(W6 (C.1+1)),(W6 (C.2.1+1)),()),())else xG ((x.1.1,x.1.2.1,C.1,(W6 (C.2.1+1)),()),())else az ((C.1,()),())
def asx:KY 23 (bh f314):=⟨0,lB 0 ⟨[(0,.lf (.aH .dM 0)),(1,tB),(5,tI),(6,tI)],[],[]⟩ [(2,xq)] Jz,lp []⟩
def JA(C:aa aZ)(D:Bool):aj (Int):=br Jz ((C,D,0,0,()),()) λE=>some E.1.1
def asy:=cg [(false,(.sl .dM)),(false,.bool)] dD (bY JA) 23 [] [asx] func314
end Go.Proofs.YtgjfmljpdnnihaaGreat
