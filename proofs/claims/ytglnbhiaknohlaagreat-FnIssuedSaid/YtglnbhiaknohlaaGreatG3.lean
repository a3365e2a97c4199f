/-
  Functions of the program as plain functions of contents, and that the code computes them. Nothing here is a claim.
-/
import Derived.Test.YtglnbhiaknohlaaGreatVZ
import Derived.Test.YtglnbhiaknohlaaGreatRows
import Derived.Test.YtglnbhiaknohlaaGreatG1
import Derived.Test.YtglnbhiaknohlaaGreatG2
namespace Go.Proofs.YtglnbhiaknohlaaGreat
set_option linter.defProp false
open Go.RowKit Go.Proofs.Tryz
set_option linter.unusedVariables false
set_option maxRecDepth 100000
def WO(O C:Int):ah ((aa Int)):=letI I:=W6 (O-1);letI L:=some ([]:aa Int);letI D:=([(W6 (C+1))]:aa Int);letI E:=([(W6 (C-1))]:aa Int);(cx O 2 16).bind λT=>bif (!T)then L else (cx C 0 I).bind λU=>bif (!U)then L else bif C > 0 then bif xZ E then bif C<I then bif bF ((xA E).length+D.length)then some ((xA E)++D)else none else some (xA E)else none else bif C<I then bif xZ D then some (xA D)else none else L
def ash:=bD BU nG (bV WO) 35 [eH] func262
def asi:bU:=⟨[(2,.aO 20000 50),(4,tI),(5,.aO 5 0),(10,tI),(11,tI)],[(5,.aC ia)],lK⟩
def asj:aa (Nat×bU):=[(2,⟨[(2,.aO 20000 50),(4,tI),(5,.aO 5 0),(10,tI)],[(5,.aC ia)],lK⟩)]
abbrev aeQ:=((af×Int×af×Int×Int×af)×(av×(Int×Int×Int×Int×af)×af))
def zY(x:aeQ):ah (aeQ⊕(((af×Int×af×Int×af)×(av×(Int×Int×Int×Int×af)×af))⊕Empty)):=letI L:=(1:Int);letI O:=(0:Int);letI E:=x.1.2.2.2;letI D:=x.2.1;letI C:=W6 ((W6 (E.1*x.2.2.1.2.2.2.1))+E.2.1);bif E.2.1<x.2.2.1.2.2.2.1 then xL D.array.cells C λe4=>xM D.array.cells C λY=>xC Y.symbols O (xM D.array.cells C λZ=>xM Z.symbols O λEs=>xM D.array.cells C λpY=>xC pY.symbols O (xM D.array.cells C λT=>xM T.symbols O λIM=>xM D.array.cells C λWQ=>letI I:=D.array.cells.set C.toNat (⟨(T.symbols.set O.toNat (bits .xor .i64 Es 5)),WQ.jb⟩:bX);xM I C λWR=>xC WR.symbols L (xM I C λxo=>xM xo.symbols L λvj=>xM I C λzZ=>xC zZ.symbols L (xM I C λU=>xM U.symbols L λe34=>xM I C λOL=>xG (((),x.1.2.1,(),E.1,(W6 (E.2.1+1)),()),({D with array:=⟨(I.set C.toNat (⟨(U.symbols.set L.toNat (bits .xor .i64 vj 10)),OL.jb⟩:bX)),D.array.br,D.array.bh⟩},x.2.2.1,()))))))else az (((),x.1.2.1,(),E.1,()),(D,x.2.2.1,()))
def asl:KY 110 (bw f260):=⟨0,lB 0 asi asj zY,lp []⟩
def IN(C:aN)(x1:nc)(U:av)(x3 Y:Int):ah ((af)×(av×af)):=letI Z:=W6 ((W6 (x3*C.rows))+Y);(let k65:av -> Int -> Int -> Int -> Int -> Int -> Int -> ah ((af)×(av×af)):=λD Et E OM ON IP OO=>letI u7:=W6 (E-1);letI u5:=W6 (E+1);letI u3:=D.array.br.set E.toNat (0:Int);letI I:=D.array.bh.set E.toNat (0:Int);xL D.array.br E λe47=>xL D.array.bh E λe50=>(let k64:(aa Int) -> ah ((af)×(av×af)):=λL=>bif Et<(W6 (IP-1))then xL L u5 λe60=>letI u6:=W6 (e60+1);xL L u5 λe63=>some ((),({D with array:=⟨D.array.cells,u3,(L.set u5.toNat (if 100000<u6 then 100000 else u6))⟩},()))else some ((),({D with array:=⟨D.array.cells,u3,L⟩},()));bif Et > 0 then xL I u7 λe53=>letI u8:=W6 (e53+1);xL I u7 λWS=>(k64 (I.set u7.toNat (if 100000<u8 then 100000 else u8)))else (k64 I));letI u1:=k65 U Y Z C.bR C.aB C.rows C.aM;(IG C x1 U.array Z).bind λy1=>bif y1 then bA zY (((),Y,(),Z,0,()),(U,(C.bR,C.aB,C.rows,C.aM,()),())) λO=>letI T:=O.2.2.1;(k65 O.2.1 O.1.2.1 O.1.2.2.2.1 T.1 T.2.1 T.2.2.1 T.2.2.2.1)else u1)
def aeR:=n6 adE [] (NZ IN) 110 [asb] [asl] func260
def asm:bU:=⟨[(0,.aO 20000 0),(3,.aO 3 0),(7,tB),(8,.lf (.own 1000000000195000)),(9,tI)],[(3,.aC ia),(1000000000195000,.sl .int 2)],N1⟩
def asn:aa (Nat×bU):=[(2,Ww)]
abbrev aeS:=((af×af×Bool×af×Int×af)×(av×(Int×Int×Int×Int×af)×(aa Int)×af))
def tP(x:aeS):ah (aeS⊕(((af)×(av×af))⊕Empty)):=letI D:=x.2.2.2.1;letI E:=x.1.2.2.2.2.1;letI L:=((),(),x.1.2.2.1,(),(W6 (E+1)),());letI C:=x.2.1;bif E<(D.length:Int)then bif x.1.2.2.1 then xL D E λO=>letI I:=(⟨x.2.2.1.2.1,O,0⟩:aJ);(B8 C.pending I).bind λT=>bif T<0 then bif bF (C.pending.length+([I]:aa aJ).length)then xG (L,({C with pending:=(C.pending++([I]:aa aJ))},x.2.2.1,D,()))else none else xG (L,(C,x.2.2.1,D,()))else az ((),(C,()))else az ((),(C,()))
def aeT:KY 129 (bw f176):=⟨0,lB 0 asm asn tP,lp [WN]⟩
def OP(L:av)(C:aF):ah ((af)×(av×af)):=letI U:=WO L.config.ax.rows C.row;letI Y:=(C.kind,C.ay,C.row,C.bL,());(IN L.config.ax L.config.cA L C.ay C.row).bind λy1=>letI D:=y1.2.1;letI E:=(D.pending.length:Int);(B8 D.pending (⟨C.ay,C.row,0⟩:aJ)).bind λI=>letI O:=W6 (I+1);letI Z:=(D.pending.take (E.toNat)).drop (O.toNat);letI T:=(D.pending.take I.toNat).drop ((0:Int).toNat);bif I >= 0 then if 0 <= (0:Int)/\0 <= I/\I <= E then if 0 <= O/\O <= E/\E <= E then bif xZ T then bif bF ((xA T).length+Z.length)then xL D.bH C.ay λe5=>xL D.guard C.ay λe8=>xM D.bH C.ay λpX=>xM D.bH C.ay λq5=>(IL (⟨pX.rows,q5.counts,e5.c9⟩:ck) C.row e8).bind λiK=>xL D.bH C.ay λxq=>U.bind λjW=>bA tP (((),(),iK.2,(),0,()),({D with bH:=(D.bH.set C.ay.toNat iK.1),pending:=((xA T)++Z)},Y,jW,())) λIQ=>some ((),(IQ.2.1,()))else none else none else none else none else xL D.bH C.ay λxo=>xL D.guard C.ay λWT=>xM D.bH C.ay λzZ=>xM D.bH C.ay λe32=>(IL (⟨zZ.rows,e32.counts,xo.c9⟩:ck) C.row WT).bind λEu=>xL D.bH C.ay λOL=>U.bind λIS=>bA tP (((),(),Eu.2,(),0,()),({D with bH:=(D.bH.set C.ay.toNat Eu.1)},Y,IS,())) λz42=>some ((),(z42.2.1,()))
def aso:=n6 [.p .de 4 0,.v true .Command] [] (bV OP) 129 [WN,aeR,asg,ash] [aeT,aeT] func176
def asp:bU:=⟨[(2,.aO 20000 50),(3,tI),(4,.aO 4 0),(5,.aO 5 0),(8,tI)],[(4,.aC ia),(5,.aC [.int .i64,.int .i64])],lK⟩
def asq:aa (Nat×bU):=[(2,Ec)]
abbrev aeU:=((af×Int×af×af×Int×af)×(av×(Int×Int×Int×Int×af)×(Int×Int×af)×af))
def IT(x:aeU):ah (aeU⊕(((af)×(av×af))⊕Empty)):=letI D:=x.1.2.2.2.2.1;letI C:=x.2.2.1;bif D<C.2.2.1 then (IN (⟨C.1,C.2.1,C.2.2.1,C.2.2.2.1⟩:aN) (⟨x.2.2.2.1.1,x.2.2.2.1.2.1⟩:nc) x.2.1 x.1.2.1 D).bind λE=>xG (((),x.1.2.1,(),(),(W6 (D+1)),()),(E.2.1,C,x.2.2.2.1,()))else az ((),(x.2.1,()))
def asr:KY 21 (bw f263):=⟨0,lB 0 asp asq IT,lp [aeR]⟩
def WU(C:aN)(D:nc)(E:av)(I:Int):ah ((af)×(av×af)):=bA IT (((),I,(),(),0,()),(E,(C.bR,C.aB,C.rows,C.aM,()),(D.br,D.bh,()),())) λL=>some ((),(L.2.1,()))
def ass:=n6 [.v true .fH,.v true .sQ,.p .de 4 50,.v false .int] [] (oY WU) 21 [] [asr] func263
abbrev aeV:=((af×Int×af×Int×af)×(av×(aa aJ)×af))
def Ev(x:aeV):ah (aeV⊕(((af×af×af)×(av×(aa aJ)×af))⊕Empty)):=letI C:=x.1.2.2.2.1;letI D:=((),x.1.2.1,(),(W6 (C+1)),());bif C<(x.2.1.pending.length:Int)then xL x.2.1.pending C λI=>bif (I.ay != x.1.2.1)then xL x.2.1.pending C λE=>bif bF (x.2.2.1.length+([E]:aa aJ).length)then xG (D,(x.2.1,(x.2.2.1++([E]:aa aJ)),()))else none else xG (D,(x.2.1,x.2.2.1,()))else az (((),(),()),(x.2.1,x.2.2.1,()))
def ast:KY 82 (bw f177):=⟨0,lB 0 ⟨[(0,.aO 20000 0),(1,tI),(4,.lf (.own 48)),(5,tI)],[(48,.sl .Addr 2)],lK⟩ [(2,⟨[(0,.aO 20000 0),(4,.lf (.own 48))],[(48,.sl .Addr 2)],lK⟩)] Ev,lp []⟩
def IU(C:av)(E:Int):ah ((af)×(av×af)):=(WU C.config.ax C.config.cA (⟨C.config,C.box,C.now,C.bk,C.ready,C.array,C.spare,C.aL,C.bH,C.guard,C.pending,C.queue,C.shares,C.drain,C.aR,C.bY,C.errors,C.trace,C.cr⟩:av) E).bind λL=>letI D:=L.2.1;(Em D.config.eD).bind λO=>xL D.bH E λU=>xL D.guard E λY=>bA Ev (((),E,(),0,()),({D with bH:=(D.bH.set E.toNat O.1),guard:=(D.guard.set E.toNat D.box.bz.dK)},([]:aa aJ),())) λI=>letI T:=I.2.1;some ((),({T with pending:=I.2.2.1},()))
def aeW:=n6 HU [] (bV IU) 82 [ass,aeo] [ast] func177
abbrev aeX:=((af×Int×af)×(((aa Int)×Int×Bool×af)×af))
def IV(x:aeX):ah (aeX⊕(((Bool×af)×(af))⊕(((af×af)×(((aa Int)×Int×Bool×af)×af))⊕Empty))):=bif x.1.2.1<(x.2.1.1.length:Int)then xI x.2.1.1 x.1.2.1 λC=>(cx C (-2) 5).bind λD=>bif (!D)then az ((false,()),())else xG (((),(W6 (x.1.2.1+1)),()),(x.2.1,()))else aT (((),()),(x.2.1,()))
def asu:KY 27 (bw f163):=⟨0,lB 0 ⟨[(1,.aO 1 0),(3,tI)],[(1,.aC HQ)],[]⟩ [(1,n7),(2,adR)] IV,lp [eH]⟩
def z0(C:dn):ah (Bool):=bM IV (((),0,()),((C.aH,C.wait,C.dL,()),())) (λE=>some E.1.1) λD=>(cx (D.2.1.1.length:Int) 1 8).bind λI=>bif I then (cx D.2.1.2.1 1 10000).bind λL=>some L else some false
def IW:=cu HX cg (bP z0) 27 [eH] [asu] func163
def OQ(C:dn)(D:Int):ah (dn×Bool):=(BZ C).bind λE=>letI I:=some (E,false);(z0 C).bind λL=>bif (!L)then I else (cx D 0 (W6 ((C.aH.length:Int)-1))).bind λO=>bif (!O)then I else xI C.aH D λT=>bif T <= (-2)then I else xI C.aH D λU=>xL E.aH D λY=>some ((⟨(E.aH.set D.toNat (W6 (U-1))),E.wait,E.dL⟩:dn),true)
def asv:=bD [(true,.mA),(false,.int)] [(true,.mA,2),(false,.bool,0)] (bV OQ) 41 [eH,Wz,IW] func178
def OR(C:aa aU)(T:Int):ah ((aa aU)×Bool):=letI D:=(C.length:Int);(Iq C T).bind λE=>letI I:=W6 (E+1);letI O:=(C.take D.toNat).drop I.toNat;letI L:=(C.take E.toNat).drop (0:Int).toNat;bif E<0 then bif xZ C then some ((xA C),false)else none else if 0 <= (0:Int)/\0 <= E/\E <= D then bif xZ L then if 0 <= I/\I <= D/\D <= D then bif bF ((xA L).length+O.length)then some (((xA L)++O),true)else none else none else none else none
def asw:=bD Wj [(false,(.sl .dV),2),(false,.bool,0)] (bV OR) 27 [aeu] func266
abbrev aeY:=(((aa cw)×(aa Bool)×Int×Int×af)×(af))
def aeZ(x:aeY):ah (aeY⊕(((Int×af)×(af))⊕Empty)):=letI D:=x.1.2.2.1;letI C:=x.1.2.2.2.1;letI E:=xG ((x.1.1,x.1.2.1,C,(W6 (C+1)),()),());letI I:=xG ((x.1.1,x.1.2.1,D,(W6 (C+1)),()),());bif C<(x.1.1.length:Int)then bif C<(x.1.2.1.length:Int)then xI x.1.2.1 C λL=>bif L then bif D<0 then E else xI x.1.1 C λO=>xI x.1.1 D λT=>bif O.fD > T.fD then E else I else I else az ((D,()),())else az ((D,()),())
def asx:KY 42 (bw f325):=⟨0,lB 0 adw [(2,xg)] aeZ,lp []⟩
def OS(C:aa cw)(D:aa Bool):ah (Int):=bA aeZ ((C,D,(-1),0,()),()) λE=>some E.1.1
def asy:=cu N5 en (bV OS) 42 [] [asx] func325
abbrev ae0:=(((aa Bool)×af×Int×af)×((aa cw)×af))
def Ew(x:ae0):ah (ae0⊕((((aa Bool)×af×af)×((aa cw)×af))⊕Empty)):=letI C:=x.1.2.2.1;bif C<(x.2.1.length:Int)then xL x.2.1 C λD=>xL x.2.1 C λE=>xG ((x.1.1,(),(W6 (C+1)),()),((x.2.1.set C.toNat (⟨E.weight,D.weight⟩:cw)),()))else az ((x.1.1,(),()),(x.2.1,()))
def asz:KY 58 (bw f267):=⟨0,lB 0 ⟨[(1,.lf (.aI .bool 0)),(6,.lf (.own 9)),(8,tI)],[(9,.sl .fU 2)],[]⟩ [(2,adC)] Ew,lp []⟩
def IX(L:aa cw)(O:aa Bool):ah ((aa cw)×Int):=letI C:=xA L;bif xZ L then (Ej L).bind λT=>bif (!T)then some (C,(-1))else (OS C O).bind λD=>bif D<0 then some (C,(-1))else xC C D (if U:D.toNat<C.length then (let Y:=C[D.toNat]'U;bif (Y.fD==0)then bA Ew ((O,(),0,()),(C,())) λE=>(OS E.2.1 E.1.1).bind λI=>xL E.2.1 I λZ=>xL E.2.1 I λEx=>some ((E.2.1.set I.toNat (⟨Ex.weight,(W6 (Z.fD-1))⟩:cw)),I)else xC C D (if xu:D.toNat<C.length then (let WV:=C[D.toNat]'xu;xC C D (if OT:D.toNat<C.length then (let xo:=C[D.toNat]'OT;some ((C.set D.toNat (⟨xo.weight,(W6 (WV.fD-1))⟩:cw)),D))else none))else none))else none)else none
def ae1:=cu N5 [(false,(.sl .fU),2),(false,.int,0)] (bV IX) 58 [WC,asy] [asz] func267
def xw(C:Int):ah (Bool):=(cx C 0 15).bind λD=>some D
def OU:=bD lM cg (bP xw) 5 [eH] func283
abbrev ae2:=(((aa Int)×Int×Int×af)×(af))
def Aa(x:ae2):ah (ae2⊕(((Bool×af)×(af))⊕((((aa Int)×Int×af)×(af))⊕Empty))):=bif x.1.2.2.1<(x.1.1.length:Int)then xI x.1.1 x.1.2.2.1 λC=>(xw C).bind λD=>bif (!D)then az ((false,()),())else xG ((x.1.1,x.1.2.1,(W6 (x.1.2.2.1+1)),()),())else aT ((x.1.1,x.1.2.1,()),())
def asA:KY 22 (bw f246):=⟨0,lB 0 adH [(1,gW),(2,adM)] Aa,lp [OU]⟩
def tQ(D:aa Int)(E:Int):ah (Bool):=bM Aa ((D,E,0,()),()) (λI=>some I.1.1) λC=>some ((C.1.1.length:Int)==C.1.2.1)
def Ey:=cu HR cg (bV tQ) 22 [] [asA] func246
abbrev ae3:=((Int×Int×Int×Int×af)×(af))
def ae4(x:ae3):ah (ae3⊕(((Int×af)×(af))⊕Empty)):=letI C:=x.1.2;letI D:=C.2.2.1;letI E:=min (IntKind.u64.wrap D).toNat IntKind.i64.bits;bif D<4 then if (IntKind.u64.wrap D)<0 then none else bif ((bits .and .i64 (C.1.fdiv (2 ^ E)) 1)==1)then if (IntKind.u64.wrap D)<0 then none else xG ((x.1.1,C.1,(bits .xor .i64 C.2.1 (W6 (x.1.1*2 ^ E))),(W6 (D+1)),()),())else xG ((x.1.1,C.1,C.2.1,(W6 (D+1)),()),())else az ((C.2.1,()),())
def asC:KY 49 (bw f348):=⟨0,lB 0 Wc [(2,xg)] ae4,lp []⟩
abbrev ae5:=((Int×Int×af)×(af))
def ae6(x:ae5):ah (ae5⊕(((Int×af)×(af))⊕Empty)):=letI C:=x.1.2.1;bif C >= 4 then if (IntKind.u64.wrap C)<0 then none else bif ((bits .and .i64 (x.1.1.fdiv (2 ^ (min (IntKind.u64.wrap C).toNat IntKind.i64.bits))) 1)==1)then if (IntKind.u64.wrap (W6 (C-4)))<0 then none else xG (((bits .xor .i64 x.1.1 (W6 ((19:Int)*2 ^ (min (IntKind.u64.wrap (W6 (C-4))).toNat IntKind.i64.bits)))),(W6 (C-1)),()),())else xG ((x.1.1,(W6 (C-1)),()),())else az ((x.1.1,()),())
def asD:KY 49 (bw f348):=⟨2,lB 2 ⟨[(5,tI),(7,tI)],[],[]⟩ [(4,xg)] ae6,lp []⟩
def tR(C D:Int):ah (Int):=(xw C).bind λE=>bif (!E)then some (-1)else (xw D).bind λI=>bif (!I)then some (-1)else bA ae4 ((C,D,0,0,()),()) λL=>bA ae6 ((L.1.1,6,()),()) λO=>some O.1.1
def IY:=cu BU en (bV tR) 49 [OU] [asC,asD] func348
abbrev ae7:=((Int×Int×Int×Int×af)×(af))
def ae8(x:ae7):ah (ae7⊕(((Int×af)×(af))⊕Empty)):=bif x.1.2.2.2.1<x.1.2.1 then (tR x.1.2.2.1 x.1.1).bind λC=>xG ((x.1.1,x.1.2.1,C,(W6 (x.1.2.2.2.1+1)),()),())else az ((x.1.2.2.1,()),())
def asE:KY 24 (bw f349):=⟨0,lB 0 Wc [(2,xg)] ae8,lp [IY]⟩
def Ez(C D:Int):ah (Int):=(xw C).bind λE=>bif (!E)then some (-1)else (cx D 0 1000).bind λI=>bif (!I)then some (-1)else bA ae8 ((C,D,1,0,()),()) λL=>some L.1.1
def WW:=cu BU en (bV Ez) 24 [eH,OU] [asE] func349
abbrev ae9:=((af×af×Int×af×Int×af)×((aa Int)×(aa Int)×(aa Int)×af))
def afa(x:ae9):ah (ae9⊕(((af×Int×af×af)×((aa Int)×(aa Int)×af))⊕Empty)):=letI C:=x.2.2;letI D:=x.1.2.2.2.2.1;letI E:=W6 (D+1);bif D<(C.1.length:Int)then xL C.2.1 E λL=>xL C.1 D λO=>letI I:=C.2.1.set E.toNat (bits .xor .i64 L O);xL C.2.1 E λWX=>xL I D λT=>xL C.1 D λU=>(Ez 2 x.1.2.2.1).bind λY=>(tR U Y).bind λZ=>xL I D λe42=>xG (((),(),x.1.2.2.1,(),E,()),(x.2.1,C.1,(I.set D.toNat (bits .xor .i64 T Z)),()))else az (((),x.1.2.2.1,(),()),(x.2.1,C.2.1,()))
def asF:KY 116 (sj (bw f326) 0):=⟨2,lB 2 ⟨[(3,.lf (.own 18)),(4,.lf (.own 99004)),(5,tI),(6,.lf (.own 29)),(7,tI)],[(18,.sl .int 2),(99004,.sl .int 2),(29,.sl .int 2)],[]⟩ [(4,⟨[(3,.lf (.own 18)),(5,tI),(6,.lf (.own 29))],[(18,.sl .int 2),(29,.sl .int 2)],[]⟩)] afa,lp [IY,WW]⟩
abbrev afb:=((af×af×Int×af)×((aa Int)×(aa Int)×af))
def WY(x:afb):ah (afb⊕(((af×af×af)×((aa Int)×(aa Int)×af))⊕Empty)):=letI C:=W6 ((x.2.2.1.length:Int)+1);bif x.1.2.2.1<3 then if 0 <= C/\C <= C/\C<1073741824 then bA afa (((),(),x.1.2.2.1,(),0,()),(x.2.1,x.2.2.1,(List.replicate C.toNat (0:Int)),())) λD=>xG (((),(),(W6 (D.1.2.1+1)),()),(D.2.1,D.2.2.1,()))else none else az (((),(),()),(x.2.1,x.2.2.1,()))
def asG:KY 116 (bw f326):=⟨0,lB 0 ⟨[(3,.lf (.own 18)),(4,.lf (.own 99004)),(5,tI)],[(18,.sl .int 2),(99004,.sl .int 2)],[]⟩ [(2,⟨[(3,.lf (.own 18)),(4,.lf (.own 99004))],[(18,.sl .int 2),(99004,.sl .int 2)],[]⟩)] WY,lq [] [asF]⟩
abbrev afc:=((af×af×af×Int×Int×Int×af)×((aa Int)×(aa Int)×(aa Int)×af))
def EA(x:afc):ah (afc⊕(((af×af×af×Int×af)×((aa Int)×(aa Int)×(aa Int)×af))⊕Empty)):=letI C:=x.2.2;letI D:=x.1.2.2.2;letI E:=D.2.2.1;letI I:=W6 ((W6 (D.1-3))+E);bif E<(C.1.length:Int)then xL C.2.1 I λL=>xL C.1 E λO=>(tR O D.2.1).bind λT=>xL C.2.1 I λU=>xG (((),(),(),D.1,D.2.1,(W6 (E+1)),()),(x.2.1,C.1,(C.2.1.set I.toNat (bits .xor .i64 L T)),()))else az (((),(),(),D.1,()),(x.2.1,C.1,C.2.1,()))
def asH:KY 116 (sj (bw f326) 4):=⟨6,lB 6 ⟨[(3,.lf (.own 18)),(4,.lf (.own 99004)),(8,.lf (.own 66)),(9,tI),(10,tI),(11,tI)],adp,[]⟩ [(8,adq)] EA,lp [IY]⟩
abbrev afd:=((af×af×af×Int×af)×((aa Int)×(aa Int)×(aa Int)×af))
def EB(x:afd):ah (afd⊕(((af×af×af)×((aa Int)×(aa Int)×af))⊕Empty)):=letI D:=x.1.2.2.2.1;bif D >= 3 then xL x.2.2.2.1 D λE=>bA EA (((),(),(),D,E,0,()),(x.2.1,x.2.2.1,x.2.2.2.1,())) λC=>xG (((),(),(),(W6 (C.1.2.2.2.1-1)),()),(C.2.1,C.2.2.1,C.2.2.2.1,()))else az (((),(),()),(x.2.1,x.2.2.2.1,()))
def asJ:KY 116 (bw f326):=⟨4,lB 4 adq [(6,⟨[(3,.lf (.own 18)),(8,.lf (.own 66))],[(18,.sl .int 2),(66,.sl .int 2)],[]⟩)] EB,lq [] [asH]⟩
abbrev afe:=((af×af×Int×af)×((aa Int)×(aa Int)×af))
def IZ(x:afe):ah (afe⊕(((af×af)×((aa Int)×af))⊕Empty)):=letI C:=x.1.2.2.1;bif C<3 then xL x.2.2.1 C λD=>xL x.2.1 C λE=>xG (((),(),(W6 (C+1)),()),((x.2.1.set C.toNat D),x.2.2.1,()))else az (((),()),(x.2.1,()))
def asK:KY 116 (bw f326):=⟨8,lB 8 ⟨[(3,.lf (.own 18)),(8,.lf (.own 66)),(13,tI)],[(18,.sl .int 2),(66,.sl .int 2)],[]⟩ [(10,⟨[(3,.lf (.own 18))],[(18,.sl .int 2)],[]⟩)] IZ,lp []⟩
def Ab(E:aa Int):ah ((aa Int)):=letI C:=(3:Int);(tQ E 8).bind λL=>bif (!L)then some ([]:aa Int)else if 0 <= C/\C <= 3/\C<1073741824 then bif bF ((List.replicate C.toNat (0:Int)).length+E.length)then bA WY (((),(),1,()),(((List.replicate C.toNat (0:Int))++E),([1,1]:aa Int),())) λD=>bif xZ D.2.1 then bA EB (((),(),(),(W6 (((xA D.2.1).length:Int)-1)),()),(D.2.1,D.2.2.1,(xA D.2.1),())) λI=>bA IZ (((),(),0,()),(I.2.1,I.2.2.1,())) λO=>some O.2.1 else none else none else none
def asM:=cu n8 nG (bP Ab) 116 [Ey] [asG,asJ,asK] func326
abbrev aff:=((Int×af×Int×af)×((aa Int)×af))
def I0(x:aff):ah (aff⊕(((af×af)×((aa Int)×af))⊕Empty)):=letI C:=x.1.2.2.1;letI D:=az (((),()),(x.2.1,()));letI E:=([(bits .and .i64 (x.1.1.fdiv (2 ^ (min (IntKind.u64.wrap (W6 (4*C))).toNat IntKind.i64.bits))) 15)]:aa Int);bif C<8 then (Io x.1.1).bind λI=>bif I then if (IntKind.u64.wrap (W6 (4*C)))<0 then none else bif bF (x.2.1.length+E.length)then xG ((x.1.1,(),(W6 (C+1)),()),((x.2.1++E),()))else none else D else D
def asN:KY 24 (bw f327):=⟨0,lB 0 ⟨[(0,tI),(3,.lf (.own 5)),(4,tI)],[(5,.sl .int 2)],[]⟩ [(2,We)] I0,lp [aer]⟩
def OV(C:Int):ah ((aa Int)):=bA I0 ((C,(),0,()),(([]:aa Int),())) λD=>some D.2.1
def asO:=cu lM nG (bP OV) 24 [] [asN] func327
def EC(C:Int):ah ((aa Int)):=(OV C).bind λD=>(Ab D).bind λE=>some E
def afg:=bD lM nG (bP EC) 6 [asM,asO] func268
abbrev afh:=(((aa Int)×af×Int×Int×Int×Int×af)×((aa Int)×af))
def ED(x:afh):ah (afh⊕((((aa Int)×af×Int×af)×((aa Int)×af))⊕Empty)):=letI C:=x.1.2.2.2;letI D:=C.2.2.1;bif D<3 then xL x.2.1 D λE=>xI x.1.1 x.1.2.2.1 λI=>(tR I C.1).bind λL=>xL x.2.1 D λT=>(tR C.1 C.2.1).bind λO=>xG ((x.1.1,(),x.1.2.2.1,O,C.2.1,(W6 (D+1)),()),((x.2.1.set D.toNat (bits .xor .i64 E L)),()))else az ((x.1.1,(),x.1.2.2.1,()),(x.2.1,()))
def asP:KY 43 (sj (bw f358) 0):=⟨2,lB 2 ⟨[(0,.lf (.aI .int 0)),(3,.lf (.own 12)),(4,tI),(5,tI),(6,tI),(7,tI)],[(12,.sl .int 2)],[]⟩ [(4,adv)] ED,lp [IY]⟩
abbrev afi:=(((aa Int)×af×Int×af)×((aa Int)×af))
def I1(x:afi):ah (afi⊕(((af×af)×((aa Int)×af))⊕Empty)):=bif x.1.2.2.1<(x.1.1.length:Int)then (Ez 2 x.1.2.2.1).bind λD=>bA ED ((x.1.1,(),x.1.2.2.1,1,D,0,()),(x.2.1,())) λC=>xG ((C.1.1,(),(W6 (C.1.2.2.1+1)),()),(C.2.1,()))else az (((),()),(x.2.1,()))
def asQ:KY 43 (bw f358):=⟨0,lB 0 adv [(2,⟨[(3,.lf (.own 12))],[(12,.sl .int 2)],[]⟩)] I1,lq [WW] [asP]⟩
def OW(C:aa Int):ah ((aa Int)):=(tQ C 11).bind λD=>bif (!D)then some ([]:aa Int)else if 0 <= (3:Int)/\(3:Int) <= 3/\(3:Int)<1073741824 then bA I1 ((C,(),0,()),((List.replicate (3:Int).toNat (0:Int)),())) λE=>some E.2.1 else none
def asR:=cu n8 nG (bP OW) 43 [Ey] [asQ] func358
def EE(C:aa Int):ah (Bool):=xI C (0:Int) λD=>bif (D==0)then xI C (1:Int) λE=>bif (E==0)then xI C (2:Int) λI=>some (I==0)else some false else some false
def asT:=bD n8 cg (bP EE) 19 [] func359
abbrev afj:=((af×af×Int×af)×((aa Int)×(aa Int)×af))
def Ca(x:afj):ah (afj⊕(((af×Int×Int×af)×((aa Int)×af))⊕(((af×af)×((aa Int)×af))⊕Empty))):=letI C:=x.2.2.1;letI D:=x.1.2.2.1;letI E:=xG (((),(),(W6 (D+1)),()),(x.2.1,C,()));bif D<11 then (Ez 2 D).bind λI=>xL C (0:Int) λL=>bif (L != 0)then xL C (0:Int) λO=>xL C (1:Int) λT=>(tR O I).bind λU=>bif (U==T)then xL C (1:Int) λY=>xL C (2:Int) λZ=>(tR Y I).bind λxx=>bif (xx==Z)then xL x.2.1 D λWZ=>xL C (0:Int) λvj=>xL x.2.1 D λzZ=>az (((),1,D,()),((x.2.1.set D.toNat (bits .xor .i64 WZ vj)),()))else E else E else E else aT (((),()),(x.2.1,()))
def asU:KY 67 (bw f350):=⟨0,lB 0 ⟨[(5,.lf (.own 13)),(6,.lf (.own 1000000000117000)),(7,tI)],[(13,.sl .int 2),(1000000000117000,.sl .int 2)],[]⟩ [(1,⟨[(2,.lf (.own 13)),(3,tI),(4,tI)],[(13,.sl .int 2)],[]⟩),(2,⟨[(5,.lf (.own 13))],[(13,.sl .int 2)],[]⟩)] Ca,lp [IY,WW]⟩
def OX(C:aa Int):ah ((aa Int)×Int×Int):=(tQ C 11).bind λI=>bif (!I)then some (([]:aa Int),2,(-1))else bif xZ C then (OW C).bind λE=>(EE E).bind λL=>bif L then some ((xA C),0,(-1))else bM Ca (((),(),0,()),((xA C),E,())) (λD=>some (D.2.1,D.1.2.1,D.1.2.2.1)) λO=>some (O.2.1,2,(-1))else none
def asW:=cu n8 [(false,(.sl .int),2),(false,.int,0),(false,.int,0)] (bP OX) 67 [Ey,asR,asT] [asU] func350
abbrev afk:=(((aa Int)×Int×Int×af)×(af))
def I2(x:afk):ah (afk⊕(((Int×af)×(af))⊕Empty)):=letI C:=x.1.2.2.1;bif C<(x.1.1.length:Int)then xI x.1.1 C λD=>if (IntKind.u64.wrap (W6 (4*C)))<0 then none else xG ((x.1.1,(bits .or .i64 x.1.2.1 (W6 (D*2 ^ (min (IntKind.u64.wrap (W6 (4*C))).toNat IntKind.i64.bits)))),(W6 (C+1)),()),())else az ((x.1.2.1,()),())
def asX:KY 26 (bw f351):=⟨0,lB 0 ⟨[(0,.lf (.aI .int 0)),(4,tI),(5,tI)],[],[]⟩ [(2,zN)] I2,lp []⟩
def OY(C:aa Int):ah (Int×Bool):=(tQ C 8).bind λD=>bif (!D)then some (0,false)else bA I2 ((C,0,0,()),()) λE=>some (E.1.1,true)
def asY:=cu n8 [(false,.int,0),(false,.bool,0)] (bP OY) 26 [Ey] [asX] func351
def OZ(D:aa Int):ah ((aa Int)):=letI C:=(D.length:Int);letI E:=(D.take C.toNat).drop (3:Int).toNat;(tQ D 11).bind λI=>bif (!I)then some ([]:aa Int)else if 0 <= (3:Int)/\3 <= C/\C <= C then bif xZ E then some (xA E)else none else none
def asZ:=bD n8 nG (bP OZ) 11 [Ey] func352
def O0(D:aa Int):ah (Int×Int×Int):=(OX D).bind λC=>bif (C.2.1==2)then some (0,C.2.1,C.2.2)else (OZ C.1).bind λE=>(OY E).bind λI=>some (I.1,C.2.1,C.2.2)
def as0:=bD n8 [(false,.int,0),(false,.int,0),(false,.int,0)] (bP O0) 29 [asW,asY,asZ] func328
def EF(C:cq):ah (Bool):=letI D:=(cx C.times 1 999).bind λE=>some E;(cx C.line 0 1023).bind λI=>bif I then bif (C.code==1)then D else bif (C.code==2)then D else some false else some false
def afl:=bD [(true,.gw)] cg (bP EF) 21 [eH] func253
abbrev afm:=(((aa cq)×Int×Int×Int×af)×(af))
def I3(x:afm):ah (afm⊕(((Int×af)×(af))⊕(((af)×(af))⊕Empty))):=letI C:=x.1.2.2.2.1;letI D:=xG ((x.1.1,x.1.2.1,x.1.2.2.1,(W6 (C+1)),()),());bif C<(x.1.1.length:Int)then xI x.1.1 C λE=>bif (E.line==x.1.2.1)then xI x.1.1 C λI=>bif (I.code==x.1.2.2.1)then az ((C,()),())else D else D else aT ((),())
def as1:KY 31 (bw f254):=⟨0,lB 0 ⟨[(0,.lf (.aI .gw 0)),(1,tI),(2,tI),(7,tI)],[],[]⟩ [(1,Wp),(2,fN)] I3,lp []⟩
def I4(C:aa cq)(D E:Int):ah (Int):=bM I3 ((C,D,E,0,()),()) (λI=>some I.1.1) λL=>some (-1)
def afn:=cu Wf en (gA I4) 31 [] [as1] func254
abbrev afo:=(((aa cq)×Int×af)×(af))
def I5(x:afo):ah (afo⊕(((Bool×af)×(af))⊕(((af)×(af))⊕Empty))):=letI C:=x.1.2.1;bif C<(x.1.1.length:Int)then xI x.1.1 C λD=>(EF D).bind λE=>bif (!E)then az ((false,()),())else xI x.1.1 C λI=>xI x.1.1 C λL=>(I4 x.1.1 I.line L.code).bind λO=>bif (O != C)then az ((false,()),())else xG ((x.1.1,(W6 (C+1)),()),())else aT ((),())
def as2:KY 35 (bw f169):=⟨0,lB 0 ⟨[(0,.lf (.aI .gw 0)),(3,tI)],[],[]⟩ [(1,n7),(2,fN)] I5,lp [afl,afn]⟩
def I6(C:aa cq):ah (Bool):=bif (C.length:Int) > 6 then some false else bM I5 ((C,0,()),()) (λD=>some D.1.1) λE=>some true
def afp:=cu [(false,(.sl .gw))] cg (bP I6) 35 [] [as2] func169
def O1(I:aa cq)(O T:Int):ah ((aa cq)×Bool):=letI C:=xA I;letI E:=(C.length:Int);letI L:=([(⟨O,T,1⟩:cq)]:aa cq);letI U:=(C.take (E.toNat)).drop ((1:Int).toNat);bif xZ I then (I6 I).bind λy1=>bif (!y1)then some (C,false)else (EF (⟨O,T,1⟩:cq)).bind λy2=>bif (!y2)then some (C,false)else (I4 I O T).bind λD=>bif D >= 0 then xC C D (if h5:D.toNat<C.length then (let e6:=C[D.toNat]'h5;letI Y:=W6 (e6.times+1);xC C D (if h8:D.toNat<C.length then (let Z:=C[D.toNat]'h8;some ((C.set D.toNat (⟨Z.line,Z.code,(if 999<Y then 999 else Y)⟩:cq)),true))else none))else none)else bif E >= 6 then if 0 <= (1:Int)/\1 <= E/\E <= E then bif xZ U then bif bF ((xA U).length+L.length)then some (((xA U)++L),true)else none else none else none else bif bF (C.length+L.length)then some ((C++L),true)else none else none
def as3:=bD Wf [(false,(.sl .gw),2),(false,.bool,0)] (gA O1) 55 [afp,afl,afn] func329
def Cb(C:av)(E D:Int):ah ((af)×(av×af)):=bif (D != 0)then (O1 C.errors E D).bind λI=>some ((),({C with errors:=I.1},()))else some ((),(C,()))
def afq:=gV adV [] (gA Cb) 21 [as3] func270
def Cc(C:av)(D:Int):ah ((Int×Int)×(av×af)):=xL C.array.cells D λO=>bif O.jb then some ((0,2),(C,()))else xM C.array.cells D λT=>(O0 T.symbols).bind λE=>letI I:=(E.1,E.2.1);bif (E.2.1==1)then (EC E.1).bind λU=>xL C.array.cells D λY=>letI L:=C.array.cells.set D.toNat (⟨U,Y.jb⟩:bX);bif (E.2.1==2)then xL L D λZ=>some (I,({C with array:=⟨(L.set D.toNat (⟨Z.symbols,true⟩:bX)),C.array.br,C.array.bh⟩},()))else some (I,({C with array:=⟨L,C.array.br,C.array.bh⟩},()))else bif (E.2.1==2)then xL C.array.cells D λxq=>some (I,({C with array:=⟨(C.array.cells.set D.toNat (⟨xq.symbols,true⟩:bX)),C.array.br,C.array.bh⟩},()))else some (I,(C,()))
def afr:=gV Wm [(false,.int,0),(false,.int,0)] (bV Cc) 48 [afg,as0] func269
def O2(C:av)(x1:Int):ah ((af)×(av×af)):=letI E:=(4:Int);xL C.queue x1 λD=>letI T:=([(⟨D.id,C.now,0,0⟩:eR)]:aa eR);(xk C D.line).bind λy4=>(B5 C.config.ax y4).bind λI=>(OR C.queue D.id).bind λU=>if 0 <= E/\E <= 4/\E<1073741824 then xL (List.replicate E.toNat false) D.dh λe9=>(IX C.shares ((List.replicate E.toNat false).set D.dh.toNat true)).bind λY=>bif D.write then (EC D.data).bind λfY=>xL C.array.cells I λpY=>bif bF (C.cr.length+T.length)then some ((),({C with array:=⟨(C.array.cells.set I.toNat (⟨fY,false⟩:bX)),C.array.br,C.array.bh⟩,queue:=U.1,shares:=Y.1,cr:=(C.cr++T)},()))else none else (Cc {C with queue:=U.1,shares:=Y.1} I).bind λL=>letI Z:=([(⟨D.id,C.now,L.1.1,L.1.2⟩:eR)]:aa eR);(Cb L.2.1 I L.1.2).bind λjG=>letI O:=jG.2.1;bif bF (O.cr.length+Z.length)then some ((),({O with cr:=(O.cr++Z)},()))else none else none
def as4:=gV HU [] (bV O2) 100 [⟨173,.q OG,WM⟩,WI,asw,ae1,afg,afr,afq] func179
def vk(C:fE):ah (Bool):=(cx C.state 0 2).bind λD=>bif D then (cx C.since 0 1000000).bind λE=>bif E then (cx C.idle 0 1000000).bind λI=>some I else some false else some false
def O3:=bD [(true,.Power)] cg (bP vk) 16 [eH] func168
def O4(C:fE)(E I:Int):ah (fE×Bool):=letI L:=cx I C.since 1000000;letI D:=some (C,false);letI O:=L.bind λT=>bif (!T)then D else some ((⟨0,I,C.idle⟩:fE),true);bif (E==6)then (vk C).bind λU=>bif (!U)then D else bif (C.state != 0)then D else L.bind λY=>bif (!Y)then D else some ((⟨1,I,C.idle⟩:fE),true)else bif (E==8)then (vk C).bind λZ=>bif (!Z)then D else bif (C.state != 0)then D else L.bind λy4=>bif (!y4)then D else some ((⟨2,I,C.idle⟩:fE),true)else bif (E==7)then (vk C).bind λy5=>bif (!y5)then D else bif (C.state != 1)then D else O else bif (E==9)then (vk C).bind λy7=>bif (!y7)then D else bif (C.state != 2)then D else O else D
def as5:=bD [(true,.Power),(false,.int),(false,.int)] [(true,.Power,0),(false,.bool,0)] (gA O4) 42 [eH,O3] func180
def O5(C:av)(D:aF):ah ((af)×(av×af)):=letI E:=some ((),({C with bk:=⟨C.bk.aB,0⟩},()));bif (D.kind==1)then xL C.bk.aB D.ay λI=>some ((),({C with bk:=⟨(C.bk.aB.set D.ay.toNat (⟨true,D.row⟩:eP)),C.bk.aR⟩},()))else bif (D.kind==4)then xL C.bk.aB D.ay λL=>some ((),({C with bk:=⟨(C.bk.aB.set D.ay.toNat (⟨false,0⟩:eP)),C.bk.aR⟩},()))else bif (D.kind==6)then some ((),({C with bk:=⟨C.bk.aB,1⟩},()))else bif (D.kind==8)then some ((),({C with bk:=⟨C.bk.aB,2⟩},()))else bif (D.kind==7)then bif (D.kind==7)then E else some ((),(C,()))else bif (D.kind==9)then E else some ((),(C,()))
def as6:=gV [.p .de 4 46,.v true .Command] [] (bV O5) 44 [] func175
abbrev afs:=((af×Int×af)×(av×af))
def Cd(x:afs):ah (afs⊕(((af)×(av×af))⊕Empty)):=letI C:=x.1.2.1;bif C<(x.2.1.bk.aB.length:Int)then (IU x.2.1 C).bind λE=>letI D:=E.2.1;xL D.aL.aH C λI=>xG (((),(W6 (C+1)),()),({D with aL:=⟨(D.aL.aH.set C.toNat (0:Int)),D.aL.wait,D.aL.dL⟩},()))else az ((),(x.2.1,()))
def aft:KY 120 (bw f73):=⟨1,lB 1 ⟨[(0,.aO 20000 0),(7,tI)],[],N1⟩ [(3,Ww)] Cd,lp [aeW]⟩
def xy(E:av)(C:aF)(x2:Int):ah ((af)×(av×af)):=letI O:=C.kind==9;letI T:=(⟨E.now,C⟩:fk);bif bF (E.trace.length+([T]:aa fk).length)then (OI E.config.ax E.ready T).bind λy1=>(O5 {E with ready:=y1,trace:=(E.trace++([T]:aa fk))} C).bind λy2=>letI D:=y2.2.1;(let I:av -> ah ((af)×(av×af)):=λU=>bif O then bA Cd (((),0,()),(U,())) λW0=>some ((),(W0.2.1,()))else some ((),(U,()));bif (C.kind==1)then (OP D C).bind λy3=>(I y3.2.1)else bif (C.kind==5)then (IU D C.ay).bind λy4=>letI Y:=y4.2.1;(OQ Y.aL C.ay).bind λy5=>letI Z:=({Y with aL:=y5.1},());bif O then bA Cd (((),0,()),Z) λz23=>some ((),(z23.2.1,()))else some ((),Z)else (let EG:Bool -> ah ((af)×(av×af)):=λj6=>bif j6 then (O2 D x2).bind λy7=>(I y7.2.1)else (let L:Bool -> ah ((af)×(av×af)):=λj8=>bif j8 then (O4 D.aR C.kind D.now).bind λy9=>(I {D with aR:=y9.1})else (I D);bif (C.kind==6)then (L (C.kind==6))else bif (C.kind==7)then (L (C.kind==7))else bif (C.kind==8)then (L (C.kind==8))else (L O));bif (C.kind==2)then (EG (C.kind==2))else (EG (C.kind==3))))else none
def afu:=n6 adW [] (gA xy) 120 [ar9,as6,aso,aeW,asv,as4,as5] [aft,aft] func73
def O6(I:qx)(C:fE)(D:Bool):ah (Int):=letI T:=decide (C.idle >= I.sleep);(let U:Bool -> ah (Int):=λj3=>bif j3 then some 0 else (let E:Bool -> ah (Int):=λj7=>bif j7 then some 7 else (let Y:Bool -> ah (Int):=λj8=>bif j8 then some 9 else (let L:Bool -> ah (Int):=λj9=>bif j9 then some 8 else (let O:Bool -> ah (Int):=λCe=>bif Ce then some 6 else some 0;letI u0:=O (decide (C.idle >= I.down));bif (!D)then bif (C.state==0)then u0 else (O false)else (O false));letI u1:=L T;bif (!D)then bif (C.state==0)then u1 else (L false)else (L false));bif D then (Y (C.state==2))else (Y false));letI u2:=E T;(let Z:Bool -> ah (Int):=λj5=>bif j5 then (E j5)else bif (!D)then bif (C.state==1)then u2 else (E false)else (E false);bif D then (Z (C.state==1))else (Z false)));(Ij I).bind λy1=>bif (!y1)then (U true)else (vk C).bind λy2=>(U (!y2)))
def as7:=bD [(true,.uB),(true,.Power),(false,.bool)] en (gA O6) 73 [O3,ael] func219
abbrev afv:=((af×af×Int×af)×(((aa Int)×Int×Bool×af)×(aa Int)×af))
def I7(x:afv):ah (afv⊕(((af×af)×((aa Int)×af))⊕Empty)):=letI C:=x.2.1;letI E:=az (((),()),(x.2.2.1,()));letI D:=x.1.2.2.1;letI I:=((),(),(W6 (D+1)),());bif D<(C.1.length:Int)then (z0 (⟨C.1,C.2.1,C.2.2.1⟩:dn)).bind λL=>bif L then xI C.1 D λO=>bif O >= 4 then bif bF (x.2.2.1.length+([D]:aa Int).length)then xG (I,(C,(x.2.2.1++([D]:aa Int)),()))else none else xG (I,(C,x.2.2.1,()))else E else E
def as8:KY 28 (bw f300):=⟨0,lB 0 ⟨ad3,[(1,.aC HQ),(5,.sl .int 2)],[]⟩ [(2,We)] I7,lp [IW]⟩
def I8(C:dn):ah ((aa Int)):=bA I7 (((),(),0,()),((C.aH,C.wait,C.dL,()),([]:aa Int),())) λD=>some D.2.1
def afw:=cu HX nG (bP I8) 28 [] [as8] func300
def Cf(C:av):ah (Bool):=bif (C.queue.length:Int) > 0 then some true else bif (C.pending.length:Int) > 0 then some true else (I8 C.aL).bind λD=>some ((D.length:Int) > 0)
def W2:je:=iI [(false,.lV)] [(false,.bool,0)] (λx=>Cf x.1)
def afx:enters Tryz.prog 220/\iF Tryz.prog 220 W2:=kp 26 [afw] func220
abbrev afy:=((av×(aa aF)×af×Int×af)×((Int×Int×Int×Int×af)×af))
def Cg(x:afy):ah (afy⊕(((af×Bool×af)×((Int×Int×Int×Int×af)×af))⊕(((af×af)×((Int×Int×Int×Int×af)×af))⊕Empty))):=letI C:=x.1.2.2.2.1;bif C<(x.1.2.1.length:Int)then xI x.1.2.1 C λE=>(B7 x.1.1 E).bind λI=>bif I then xI x.1.2.1 C λD=>az (((),true,()),((D.kind,D.ay,D.row,D.bL,()),()))else xG ((x.1.1,x.1.2.1,(),(W6 (C+1)),()),(x.2.1,()))else aT (((),()),(x.2.1,()))
def as9:KY 24 (bw f221):=⟨0,lB 0 ⟨[(0,.fp .de 0),(1,.lf (.aI .Command 0)),(4,.aO 4 0),(6,tI)],[(4,.aC ia)],[]⟩ [(1,⟨[(4,.aO 4 0),(5,tB)],[(4,.aC ia)],[]⟩),(2,⟨[(4,.aO 4 0)],[(4,.aC ia)],[]⟩)] Cg,lp [OE]⟩
def I9(D:av)(E:aa aF):ah (aF×Bool):=bM Cg ((D,E,(),0,()),((0,0,0,0,()),())) (λC=>some ((⟨C.2.1.1,C.2.1.2.1,C.2.1.2.2.1,C.2.1.2.2.2.1⟩:aF),C.1.2.1)) λI=>some ((⟨0,0,0,0⟩:aF),false)
def ata:=cu [(false,.lV),(false,(.sl .Command))] [(true,.Command,0),(false,.bool,0)] (bV I9) 24 [] [as9] func221
def Ch(C:av)(D:Int):ah (Bool):=xI C.aL.aH D λE=>some (E >= 4)
def O7:=bD [(false,.lV),(false,.int)] cg (bV Ch) 14 [] func301
def EH(D:av)(C:aF):ah (aF):=xI D.bk.aB C.ay λE=>bif E.open_ then some (⟨4,C.ay,0,0⟩:aF)else some C
def W3:=bD [(false,.lV),(true,.Command)] [(true,.Command,0)] (bV EH) 19 [] func302
abbrev afz:=(((aa aJ)×Int×Int×af)×(af))
def EI(x:afz):ah (afz⊕(((Bool×af)×(af))⊕(((af)×(af))⊕Empty))):=bif x.1.2.2.1<(x.1.1.length:Int)then xI x.1.1 x.1.2.2.1 λC=>bif (C.ay==x.1.2.1)then az ((true,()),())else xG ((x.1.1,x.1.2.1,(W6 (x.1.2.2.1+1)),()),())else aT ((),())
def atb:KY 19 (bw f303):=⟨0,lB 0 ⟨[(0,.lf (.aI .Addr 0)),(1,tI),(5,tI)],[],[]⟩ [(1,gW),(2,fN)] EI,lp []⟩
def EJ(C:aa aJ)(D:Int):ah (Bool):=bM EI ((C,D,0,()),()) (λE=>some E.1.1) λI=>some false
def W4:=cu [(false,(.sl .Addr)),(false,.int)] cg (bV EJ) 19 [] [atb] func303
abbrev afA:=((av×af×Int×af)×((aa aF)×af))
def Ja(x:afA):ah (afA⊕(((av×af×af)×((aa aF)×af))⊕Empty)):=letI C:=x.1.2.2.1;letI D:=(x.1.1,(),(W6 (C+1)),());bif C<(x.1.1.aL.aH.length:Int)then (Ch x.1.1 C).bind λI=>bif I then (EH x.1.1 (⟨5,C,0,0⟩:aF)).bind λE=>bif bF (x.2.1.length+([E]:aa aF).length)then xG (D,((x.2.1++([E]:aa aF)),()))else none else xG (D,(x.2.1,()))else az ((x.1.1,(),()),(x.2.1,()))
def atc:KY 72 (bw f222):=⟨0,lB 0 ⟨[(0,.fp .de 0),(3,.lf (.own 7)),(4,tI)],Ob,[]⟩ [(2,⟨[(0,.fp .de 0),(3,.lf (.own 7))],Ob,[]⟩)] Ja,lp [O7,W3]⟩
abbrev afB:=((av×af×Int×af)×((aa aF)×af))
def Jb(x:afB):ah (afB⊕(((af×af)×((aa aF)×af))⊕Empty)):=letI C:=x.1.1;letI D:=x.1.2.2.1;letI I:=(C,(),(W6 (D+1)),());bif D<(C.pending.length:Int)then xI C.pending D λE=>(Ch C E.ay).bind λO=>bif (!O)then if 0 <= (0:Int)/\0 <= D/\D <= (C.pending.length:Int)then (EJ ((C.pending.take D.toNat).drop (0:Int).toNat) E.ay).bind λT=>bif (!T)then (EH C (⟨1,E.ay,E.row,0⟩:aF)).bind λL=>bif bF (x.2.1.length+([L]:aa aF).length)then xG (I,((x.2.1++([L]:aa aF)),()))else none else xG (I,(x.2.1,()))else none else xG (I,(x.2.1,()))else az (((),()),(x.2.1,()))
def atd:KY 72 (bw f222):=⟨2,lB 2 ⟨[(0,.fp .de 0),(3,.lf (.own 7)),(5,tI)],Ob,[]⟩ [(4,⟨[(3,.lf (.own 7))],Ob,[]⟩)] Jb,lp [O7,W3,W4]⟩
def O8(D:av):ah ((aa aF)):=bA Ja ((D,(),0,()),(([]:aa aF),())) λC=>bA Jb ((C.1.1,(),0,()),(C.2.1,())) λE=>some E.2.1
def ate:=cu [(false,.lV)] [(false,(.sl .Command),2)] (bP O8) 72 [] [atc,atd] func222
end Go.Proofs.YtglnbhiaknohlaaGreat
