/-
  Functions of the program as plain functions of contents, and that the code computes them. Nothing here is a claim.
-/
import Derived.Test.YtdfkhfiglknaoaaGreatVZ
import Derived.Test.YtdfkhfiglknaoaaGreatRows
import Derived.Test.YtdfkhfiglknaoaaGreatG1
namespace Go.Proofs.YtdfkhfiglknaoaaGreat
open Go.RowKit Go.Proofs.Tryz
set_option linter.unusedVariables false
set_option maxRecDepth 100000
def QS(C:aG):ah (c9):=(za C).bind λD=>bif (!D)then some (⟨[],[]⟩:c9)else (n9 C).bind λE=>(Kp (W6 (9*(W6 (E+1))))).bind λI=>some (⟨I,[]⟩:c9)
def ate:=bB tX [(true,.oA,2)] (bN QS) 13 [nu,F1,af9] func22
def atf:bF:=⟨afD,aeU,[]⟩
def atg:aa (Nat×bF):=[(2,⟨afP,aeU,[]⟩)]
abbrev aga:=((af×af×af×Int×af)×((Int×Int×Int×Int×af)×(af×af×af×af)×(af×af×af×af)×(aa bQ)×(aa Int)×(aa Int)×(aa bQ)×(aa Int)×(aa Int)×af))
def Kq(x:aga):ah (aga⊕(((af×af×af×af)×((Int×Int×Int×Int×af)×(af×af×af×af)×(af×af×af×af)×(aa bQ)×(aa Int)×(aa Int)×(aa bQ)×(aa Int)×(aa Int)×af))⊕Empty)):=letI I:=(11:Int);letI O:=(⟨(List.replicate I.toNat (0:Int)),false⟩:bQ);letI D:=((),(),(),());letI E:=x.2.2.2.2.2;letI C:=E.2.2;(tY (⟨x.2.1.1,x.2.1.2.1,x.2.1.2.2.1,x.2.1.2.2.2.1⟩:aG)).bind λU=>bif x.1.2.2.2.1<U then if 0 <= I/\I <= 11/\I<1073741824 then bif bE (C.1.length+[O].length)then xG (((),(),(),(W6 (x.1.2.2.2.1+1)),()),(x.2.1,D,D,x.2.2.2.2.1,E.1,E.2.1,(C.1++[O]),C.2.1,C.2.2.1,()))else none else none else az (D,(x.2.1,D,D,x.2.2.2.2.1,E.1,E.2.1,C.1,C.2.1,C.2.2.1,()))
def ath:KY 39 (bf f23):=⟨0,lB 0 atf atg Kq,lp [F2]⟩
def QT(E:aG):ah (cJ):=letI C:=(0:Int);bw Kq (((),(),(),0,()),((E.bK,E.aA,E.rows,E.aK,()),((),(),(),()),((),(),(),()),([]:aa bQ),([]:aa Int),([]:aa Int),([]:aa bQ),([]:aa Int),([]:aa Int),())) λI=>letI O:=I.2.1.2;letI U:=(⟨I.2.1.1,O.1,O.2.1,O.2.2.1⟩:aG);letI Y:=if 0 <= C/\C <= 0/\C<1073741824 then if 0 <= C/\C <= 0/\C<1073741824 then some (⟨I.2.2.2.2.2.2.2.1,(List.replicate C.toNat C),(List.replicate C.toNat C)⟩:cJ)else none else none;(n9 U).bind λy3=>letI D:=W6 (y3*O.2.1);bif D<0 then Y else (za U).bind λy4=>bif (!y4)then Y else if 0 <= D/\D <= D/\D<1073741824 then if 0 <= D/\D <= D/\D<1073741824 then some (⟨I.2.2.2.2.2.2.2.1,(List.replicate D.toNat C),(List.replicate D.toNat C)⟩:cJ)else none else none
def ati:=bZ tX [(true,.Array,4)] (bN QT) 39 [nu,F1] [ath] func23
def A8(C:dz):ah (dz):=bif xZ C.weights then some (⟨C.eG,C.cap,C.eC,C.low,C.high,(xA C.weights),C.de⟩:dz)else none
def QU:=bB FZ [(true,.nP,2)] (bN A8) 9 [] func56
def QV(C:dz):ah (iK×Bool):=(Ga C).bind λD=>bif (!D)then some ((⟨⟨0,0,0,0,0,[],⟨0,0⟩⟩,⟨0,0,0,0,0,[],⟨0,0⟩⟩,false⟩:iK),false)else (A8 C).bind λE=>(A8 C).bind λI=>some ((⟨E,I,false⟩:iK),true)
def atj:=bB FZ FW (bN QV) 13 [YE,QU] func25
def QW(C D:Int):ah (c8×Bool):=letI E:=some ((⟨[],0,false⟩:c8),false);(cO C 1 8).bind λI=>bif (!I)then E else (cO D 2 10000).bind λO=>bif (!O)then E else if 0 <= C/\C <= C/\C<1073741824 then some ((⟨(List.replicate C.toNat (0:Int)),D,false⟩:c8),true)else none
def atk:=bB A3 [(true,.ld,2),(false,.bool,0)] (bR QW) 19 [fQ] func27
def Gb(C:Int):ah (cq×Bool):=(cO C 1 16).bind λD=>bif (!D)then some ((⟨[],[],0⟩:cq),false)else (Kp C).bind λE=>if 0 <= C/\C <= C/\C<1073741824 then some ((⟨E,(List.replicate C.toNat (0:Int)),0⟩:cq),true)else none
def agb:=bB mb [(true,.jL,2),(false,.bool,0)] (bN Gb) 13 [fQ,af9] func28
def YF(C:Int):ah (lZ×Bool):=(cO C 1 100000).bind λD=>bif (!D)then some ((⟨0,0,0⟩:lZ),false)else some ((⟨0,C,C⟩:lZ),true)
def atl:=bB mb [(true,.sx,0),(false,.bool,0)] (bN YF) 11 [fQ] func30
def atm:bF:=⟨[(2,.aE 2 0),(3,.aE 3 0),(4,.aE 4 0),(6,.aE 6 0),(7,tI),(8,tI)],[(2,.st .Config),(3,.aB yZ)],aeR⟩
def atn:aa (Nat×bF):=[(2,⟨[(3,.aE 3 0),(4,.aE 4 0),(6,.aE 6 0)],[(3,.aB yZ)],aeR⟩)]
abbrev agc:=((af×af×af×af×Int×Int×af)×(ax×ax×dP×(Int×Int×Int×Int×Int×(aa Int)×Int×Int×af)×af))
def Gc(x:agc):ah (agc⊕(((af×af×af×af)×(ax×ax×(Int×Int×Int×Int×Int×(aa Int)×Int×Int×af)×af))⊕Empty)):=letI E:=x.2.2.2.2.1;letI I:=([E.2.2.1]:aa Int);letI D:=x.1.2.2.2.2;letI C:=x.2.2.1;bif D.2.1<D.1 then (Gb x.2.2.2.1.gO).bind λO=>bif bE (C.bH.length+[O.1].length)then bif bE (C.guard.length+I.length)then xG (((),(),(),(),D.1,(W6 (D.2.1+1)),()),(x.2.1,{C with bH:=(C.bH++[O.1]),guard:=(C.guard++I)},x.2.2.2.1,E,()))else none else none else az (((),(),(),()),(x.2.1,C,E,()))
def ato:KY 95 (bf f7):=⟨0,lB 0 atm atn Gc,lp [agb]⟩
def Kr(D:dP)(C:dz):ah (ax×Bool):=(Ds D C).bind λO=>bif (!O)then some ((⟨⟨⟨0,0,0,0⟩,⟨0,0,0,0,0,0,0,0,0,0,0,0,0,0,0,0,0⟩,⟨0,false⟩,0,0,0,⟨0,0⟩⟩,⟨⟨0,0,0,0,0,[],⟨0,0⟩⟩,⟨0,0,0,0,0,[],⟨0,0⟩⟩,false⟩,0,⟨[],0⟩,⟨[],[]⟩,⟨[],[],[]⟩,⟨0,[]⟩,⟨[],0,false⟩,[],[],[],[],[],⟨false,0,0⟩,⟨0,0,0⟩,⟨0,0,0⟩,[],[],[]⟩:ax),false)else (QO D.au).bind λU=>(QS D.au).bind λY=>(QT D.au).bind λy4=>(n9 D.au).bind λE=>(QV C).bind λy6=>(F6 D.au D.bL).bind λy7=>(QW E D.interval).bind λy8=>bw Gc (((),(),(),(),E,0,()),((⟨⟨⟨0,0,0,0⟩,⟨0,0,0,0,0,0,0,0,0,0,0,0,0,0,0,0,0⟩,⟨0,false⟩,0,0,0,⟨0,0⟩⟩,⟨⟨0,0,0,0,0,([]:aa Int),⟨0,0⟩⟩,⟨0,0,0,0,0,([]:aa Int),⟨0,0⟩⟩,false⟩,0,⟨([]:aa di),0⟩,⟨([]:aa Int),([]:aa Int)⟩,⟨([]:aa bQ),([]:aa Int),([]:aa Int)⟩,⟨0,([]:aa Int)⟩,⟨([]:aa Int),0,false⟩,([]:aa cq),([]:aa Int),([]:aa aM),([]:aa aN),([]:aa cD),⟨false,0,0⟩,⟨0,0,0⟩,⟨0,0,0⟩,([]:aa cB),([]:aa bW),([]:aa dA)⟩:ax),(⟨D,y6.1,0,U,Y,y4,y7.1,y8.1,([]:aa cq),([]:aa Int),([]:aa aM),([]:aa aN),([]:aa cD),⟨false,C.low,C.high⟩,⟨0,0,0⟩,⟨0,0,0⟩,([]:aa cB),([]:aa bW),([]:aa dA)⟩:ax),D,(C.eG,C.cap,C.eC,C.low,C.high,C.weights,C.de.down,C.de.sleep,()),())) λI=>letI u0:=I.2.2.1;(Dq I.2.2.2.1.2.2.2.2.2.1).bind λfR=>(YF 10).bind λgC=>some ({u0 with shares:=fR.1,cY:=gC.1},true)
def agd:=bZ Qr J5 (bR Kr) 95 [af7,atc,ate,ati,nu,atj,YA,atk,YC,atl] [ato] func7
abbrev agf:=(((aa Int)×Int×Int×af)×(af))
def Ks(x:agf):ah (agf⊕(((Bool×af)×(af))⊕(((af)×(af))⊕Empty))):=bif x.1.2.2.1<(x.1.1.length:Int)then xI x.1.1 x.1.2.2.1 λC=>bif (C==x.1.2.1)then az ((true,()),())else xG ((x.1.1,x.1.2.1,(W6 (x.1.2.2.1+1)),()),())else bx ((),())
def atp:KY 18 (bf f58):=⟨0,lB 0 afn [(1,mc),(2,ic)] Ks,lp []⟩
def QX(C:aa Int)(D:Int):ah (Bool):=bU Ks ((C,D,0,()),()) (λE=>some E.1.1) λI=>some false
def atq:=bZ FU cy (bR QX) 18 [] [atp] func58
abbrev agh:=((af×af×Int×Int×af)×((Int×Int×Int×Int×af)×(Int×(aa Int)×af)×af))
def Kt(x:agh):ah (agh⊕(((Bool×af)×(af))⊕(((af)×(af))⊕Empty))):=letI E:=x.2.2.1.2.1;letI D:=x.1.2.2;letI C:=D.2.1;letI O:=xG (((),(),D.1,(W6 (C+1)),()),(x.2.1,x.2.2.1,()));letI I:=W6 ((W6 (C.tdiv D.1))*D.1);bif C<(E.length:Int)then xI E C λU=>if D.1=0 then none else bif (U==(C.tmod D.1))then O else xI E C λY=>(cO Y D.1 (W6 (x.2.1.2.2.1-1))).bind λy7=>bif (!y7)then az ((false,()),())else if D.1=0 then none else if 0 <= I/\I <= C/\C <= (E.length:Int)then xI E C λe9=>(QX ((E.take C.toNat).drop I.toNat) e9).bind λgH=>bif gH then az ((false,()),())else O else none else bx ((),())
def atr:KY 77 (bf f31):=⟨0,lB 0 ⟨[(2,.aE 2 0),(3,.aE 3 0),(7,tI),(8,tI)],[(2,.aB eK),(3,.aB FX)],[]⟩ [(1,mc),(2,ic)] Kt,lp [fQ,atq]⟩
def Ku(C:aG)(D:dw):ah (Bool):=letI E:=W6 (C.rows-D.bL);(F6 C D.bL).bind λI=>bif (!I.2)then some false else (n9 C).bind λO=>bif ((D.map.length:Int) != (W6 (O*E)))then some false else bU Kt (((),(),E,0,()),((C.bK,C.aA,C.rows,C.aK,()),(D.bL,D.map,()),())) (λU=>some U.1.1) λY=>some true
def agi:=bZ Qs cy (bR Ku) 77 [nu,YA] [atr] func31
def QY(C:aG)(D:dw):ah (aG):=(Ku C D).bind λE=>bif (!E)then some (⟨0,0,0,0⟩:aG)else some (⟨C.bK,C.aA,(W6 (C.rows-D.bL)),C.aK⟩:aG)
def att:=bB Qs [(true,.gd,0)] (bR QY) 17 [agi] func8
def Kv(C:aG)(E:oz)(I:Int):ah (aM×Bool):=letI u6:=some ((⟨0,0,0⟩:aM),false);letI U:=I.tmod C.aK;letI O:=W6 (I.tdiv C.aK);letI Y:=O.tmod C.rows;(F7 E).bind λy1=>bif (!y1)then u6 else (tY C).bind λy2=>(cO I 0 (W6 (y2-1))).bind λy3=>bif (!y3)then u6 else (n9 C).bind λD=>letI u4:=W6 (O.tdiv D);letI u3:=W6 (I.tdiv D);letI u1:=W6 (u3.tdiv C.aK);bif (E.order==0)then if C.aK=0 then none else if C.aK=0 then none else if D=0 then none else if C.aK=0 then none else if D=0 then none else bif E.hash then if D=0 then none else some ((⟨((W6 ((O.tmod D)+u4)).tmod D),u4,U⟩:aM),true)else some ((⟨(O.tmod D),u4,U⟩:aM),true)else bif (E.order==1)then if D=0 then none else if D=0 then none else if C.aK=0 then none else if D=0 then none else if C.aK=0 then none else bif E.hash then if D=0 then none else some ((⟨((W6 ((I.tmod D)+u1)).tmod D),u1,(u3.tmod C.aK)⟩:aM),true)else some ((⟨(I.tmod D),u1,(u3.tmod C.aK)⟩:aM),true)else if C.aK=0 then none else if C.aK=0 then none else if C.rows=0 then none else if C.aK=0 then none else if C.rows=0 then none else bif E.hash then if D=0 then none else some ((⟨((W6 ((W6 (O.tdiv C.rows))+Y)).tmod D),Y,U⟩:aM),true)else some ((⟨(W6 (O.tdiv C.rows)),Y,U⟩:aM),true)
def agj:=bB [(true,.gd),(true,.tv),(false,.int)] Yp (fP Kv) 94 [F2,nu,af1,fQ] func10
def cz(C D E:Int):ah (Bool):=bif C >= D then some (C <= E)else some false
def eH:=bB [(false,.int),(false,.int),(false,.int)] cy (fP cz) 15 [] func72
def oN(C:aG):ah (Bool):=(cz C.bK 1 2).bind λD=>bif D then (cz C.aA 1 4).bind λE=>bif E then (cz C.rows 2 16).bind λI=>bif I then (cz C.aK 1 8).bind λO=>some O else some false else some false else some false
def rO:=bB tX cy (bN oN) 21 [eH] func107
def me(C:aG):ah (Int):=(oN C).bind λD=>bif (!D)then some 0 else some (W6 (C.bK*C.aA))
def oa:=bB tX dS (bN me) 11 [rO] func66
abbrev agk:=((Int×af×af×af×Int×Int×af)×((Int×Int×Int×Int×af)×(Int×af×af)×(Int×af×af)×(aa Int)×(aa Int)×af))
def Gd(x:agk):ah (agk⊕(((Int×af×af×af×Int×af)×((Int×Int×Int×Int×af)×(Int×af×af)×(Int×af×af)×(aa Int)×(aa Int)×af))⊕Empty)):=letI C:=x.2.2.2;letI D:=x.1.2.2.2.2;bif D.2.1<(W6 (x.2.1.2.2.1-x.1.1))then bif bE (C.2.2.1.length+([D.2.1]:aa Int).length)then xG ((x.1.1,(),(),(),D.1,(W6 (D.2.1+1)),()),(x.2.1,x.2.2.1,C.1,C.2.1,(C.2.2.1++([D.2.1]:aa Int)),()))else none else az ((x.1.1,(),(),(),D.1,()),(x.2.1,x.2.2.1,C.1,C.2.1,C.2.2.1,()))
def atu:KY 48 (sZ (bf f64) 0):=⟨2,lB 2 ⟨[(1,tI),(2,.aE 2 0),(4,.aE 4 0),(6,.aE 6 0),(7,tI),(8,tI)],zz6,[]⟩ [(4,Yd)] Gd,lp []⟩
abbrev agl:=((Int×af×af×af×Int×af)×((Int×Int×Int×Int×af)×(Int×af×af)×(Int×af×af)×(aa Int)×(aa Int)×af))
def Kw(x:agl):ah (agl⊕(((af×af×af)×((Int×af×af)×(Int×af×af)×(aa Int)×(aa Int)×af))⊕Empty)):=letI D:=x.2.2.2;(me (⟨x.2.1.1,x.2.1.2.1,x.2.1.2.2.1,x.2.1.2.2.2.1⟩:aG)).bind λE=>bif x.1.2.2.2.2.1<E then bw Gd ((x.1.1,(),(),(),x.1.2.2.2.2.1,0,()),(x.2.1,x.2.2.1,D.1,D.2.1,D.2.2.1,())) λC=>xG ((C.1.1,(),(),(),(W6 (C.1.2.2.2.2.1+1)),()),(C.2.1,C.2.2.1,C.2.2.2.1,C.2.2.2.2.1,C.2.2.2.2.2.1,()))else az (((),(),()),(x.2.2.1,D.1,D.2.1,D.2.2.1,()))
def atv:KY 48 (bf f64):=⟨0,lB 0 Yd [(2,aeX)] Kw,lq [oa] [atu]⟩
def Ge(C:aG)(D:Int):ah (dw×Bool):=letI E:=some ((⟨0,[]⟩:dw),false);(oN C).bind λO=>bif (!O)then E else (cz D 0 2).bind λU=>bif (!U)then E else bif (W6 (C.rows-D))<2 then E else bw Kw ((D,(),(),(),0,()),((C.bK,C.aA,C.rows,C.aK,()),(0,(),()),(D,(),()),([]:aa Int),([]:aa Int),())) λI=>some ((⟨I.2.2.1.1,I.2.2.2.2.1⟩:dw),true)
def YG:=bZ J7 [(true,.qj,2),(false,.bool,0)] (bR Ge) 48 [eH,rO] [atv] func64
abbrev agm:=((af×af×Int×Int×af)×(cg×(aa Int)×af))
def Gf(x:agm):ah (agm⊕(((Bool×af)×(af))⊕(((af×af)×(cg×af))⊕Empty))):=letI C:=x.1.2.2;bif C.2.1<C.1 then xL x.2.2.1 C.2.1 λD=>(cz D 1 64).bind λE=>bif (!E)then az ((false,()),())else xG (((),(),C.1,(W6 (C.2.1+1)),()),(x.2.1,x.2.2.1,()))else bx (((),()),(x.2.1,()))
def atw:KY 75 (bf f108):=⟨0,lB 0 ⟨[(1,.aE 1 0),(39,.lf (.own 39)),(40,tI),(41,tI)],[(1,.st .ko),(39,.sl .int 2)],[]⟩ [(1,qO),(2,afA)] Gf,lp [eH]⟩
def Dt(C:cg):ah (Bool):=letI E:=([C.lX,C.rp,C.iC,C.o6,C.lY,C.jJ,C.o7,C.o8,C.kj,C.wr,C.o9,C.pg,C.su,C.pn,C.qi,C.xp,C.xs]:aa Int);bU Gf (((),(),(E.length:Int),0,()),(C,E,())) (λI=>some I.1.1) λO=>letI D:=O.2.1;bif D.lX <= D.iC then bif D.o6 <= D.lY then bif D.o7 <= D.o8 then some (D.o9 <= D.pg)else some false else some false else some false
def QZ:=bZ Kc cy (bN Dt) 75 [] [atw] func108
def Kx(C:oz):ah (Bool):=(cz C.order 0 2).bind λD=>some D
def agn:=bB [(true,.tv)] cy (bN Kx) 6 [eH] func184
def zc(C:cg):ah (Int):=(Dt C).bind λD=>bif (!D)then some 0 else some (W6 (2*(W6 ((W6 ((W6 ((W6 ((W6 ((W6 ((W6 ((W6 ((W6 (C.qi+C.xp))+C.iC))+C.wr))+C.kj))+C.rp))+C.pn))+C.lX))+(W6 (8*C.lY))))+16))))
def atx:=bB Kc dS (bN zc) 35 [QZ] func185
def Q0(C:dP):ah (Bool):=(Ge C.au C.bL).bind λD=>(oN C.au).bind λE=>bif E then (Dt C.bY).bind λI=>bif I then (Kx C.mapping).bind λO=>bif O then bif D.2 then (zc C.bY).bind λU=>(cz C.interval U 10000).bind λY=>bif Y then (cz C.gO 1 16).bind λy7=>bif y7 then (cz C.dg.bu (W6 (6*C.interval)) 100000).bind λy8=>bif y8 then (cz C.dg.bq 0 100000).bind λy9=>some y9 else some false else some false else some false else some false else some false else some false else some false
def aty:=bB [(true,.Config)] cy (bN Q0) 57 [YG,eH,rO,QZ,agn,atx] func122
abbrev ago:=(((aa cD)×(aa cD)×Int×Int×af)×(af))
def Ky(x:ago):ah (ago⊕(((Bool×af)×(af))⊕((((aa cD)×af)×(af))⊕Empty))):=letI C:=x.1.2.2;bif C.2.1<C.1 then xI x.1.2.1 C.2.1 λD=>(cz D.weight 1 9).bind λE=>bif (!E)then az ((false,()),())else (cz D.fF 0 D.weight).bind λI=>bif (!I)then az ((false,()),())else xG ((x.1.1,x.1.2.1,C.1,(W6 (C.2.1+1)),()),())else bx ((x.1.1,()),())
def atz:KY 27 (bf f103):=⟨0,lB 0 ⟨[(0,.lf (.aI .hD 0)),(5,.lf (.aI .hD 0)),(6,tI),(7,tI)],[],[]⟩ [(1,qO),(2,afF)] Ky,lp [eH]⟩
def Gg(C:aa cD):ah (Bool):=bU Ky ((C,C,(C.length:Int),0,()),()) (λD=>some D.1.1) λE=>(cz (E.1.1.length:Int) 1 4).bind λI=>some I
def YH:=bZ [(false,(.sl .hD))] cy (bN Gg) 27 [eH] [atz] func103
abbrev agp:=((af×(aa Int)×Int×Int×af)×((aa cD)×af))
def Kz(x:agp):ah (agp⊕(((af×af)×((aa cD)×af))⊕Empty)):=letI C:=x.1.2.2;bif C.2.1<C.1 then xI x.1.2.1 C.2.1 λD=>letI E:=([(⟨D,D⟩:cD)]:aa cD);bif bE (x.2.1.length+E.length)then xG (((),x.1.2.1,C.1,(W6 (C.2.1+1)),()),((x.2.1++E),()))else none else az (((),()),(x.2.1,()))
def atA:KY 25 (bf f67):=⟨0,lB 0 ⟨[(4,.lf (.own 7)),(8,.lf (.aI .int 0)),(9,tI),(10,tI)],[(7,.sl .hD 2)],[]⟩ [(2,⟨[(4,.lf (.own 7))],[(7,.sl .hD 2)],[]⟩)] Kz,lp []⟩
def A9(C:aa Int):ah ((aa cD)×Bool):=bw Kz (((),C,(C.length:Int),0,()),(([]:aa cD),())) λD=>(Gg D.2.1).bind λE=>bif (!E)then some ([],false)else some (D.2.1,true)
def YI:=bZ pT [(false,(.sl .hD),2),(false,.bool,0)] (bN A9) 25 [YH] [atA] func67
def Du(C:jy):ah (Bool):=bif C.low >= 0 then bif C.low<C.high then some (C.high <= 12)else some false else some false
def Q1:=bB [(true,.qk)] cy (bN Du) 18 [] func104
def KA(C:sv):ah (Bool):=(cz C.down 1 10000).bind λD=>bif D then bif C.sleep > C.down then some (C.sleep <= 20000)else some false else some false
def agq:=bB [(true,.uF)] cy (bN KA) 18 [eH] func186
def Gh(C:dz):ah (Bool):=(A9 C.weights).bind λE=>letI D:=(cz C.cap 0 100000).bind λI=>bif I then (cz C.eC 3 1000).bind λO=>bif O then (Du (⟨false,C.low,C.high⟩:jy)).bind λU=>bif U then bif ((C.weights.length:Int)==4)then bif E.2 then (KA C.de).bind λY=>some Y else some false else some false else some false else some false else some false;bif (C.eG==0)then D else bif (C.eG==1)then D else some false
def YJ:=bB FZ cy (bN Gh) 51 [YI,eH,Q1,agq] func123
def Ba(C:Int):ah (Int):=(cz C 3 1000).bind λD=>bif (!D)then some 0 else some (W6 ((W6 (2*C))+2))
def atB:=bB mb dS (bN Ba) 9 [eH] func124
def rP(C:dP)(D:dz):ah (Bool):=letI E:=W6 (C.bY.iC+C.bY.rp);(Q0 C).bind λI=>bif I then (Gh D).bind λO=>bif O then (Ba D.eC).bind λU=>bif (W6 (U+2)) <= C.dg.bq then if E=0 then none else some ((W6 ((W6 (C.gO+1))*D.eC)) > (W6 ((W6 ((W6 (5*C.interval)).tdiv E))+2)))else some false else some false else some false
def YK:=bB Qr cy (bR rP) 42 [aty,YJ,atB] func59
def Gi(D:aG):ah (bX):=(oN D).bind λE=>bif (!E)then some (⟨[],0⟩:bX)else (me D).bind λC=>if 0 <= C/\C <= C/\C<1073741824 then some (⟨(List.replicate C.toNat (⟨false,0⟩:di)),0⟩:bX)else none
def YL:=bB tX [(true,.ji,2)] (bN Gi) 11 [oa,rO] func60
abbrev agr:=((af×af×Int×Int×af)×((af×af×af)×(af×af×af)×(aa Int)×(aa Int)×(aa Int)×(aa Int)×af))
def KB(x:agr):ah (agr⊕(((af×af×af)×((af×af×af)×(af×af×af)×(aa Int)×(aa Int)×(aa Int)×(aa Int)×af))⊕Empty)):=letI E:=x.1.2.2.2.1;letI D:=((),(),());letI C:=x.2.2.2.2;bif E<x.1.2.2.1 then xL C.2.1 E λI=>xG (((),(),x.1.2.2.1,(W6 (E+1)),()),(D,D,x.2.2.2.1,C.1,(C.2.1.set E.toNat (-1:Int)),C.2.2.1,()))else az (D,(D,D,x.2.2.2.1,C.1,C.2.1,C.2.2.1,()))
def atC:KY 27 (bf f61):=⟨0,lB 0 ⟨[(2,.aE 2 0),(3,.aE 3 0),(17,tI),(18,tI)],ae2,[]⟩ [(2,⟨Yr,ae2,[]⟩)] KB,lp []⟩
def KD(D:aG):ah (c9):=(oN D).bind λI=>bif (!I)then some (⟨[],[]⟩:c9)else (me D).bind λO=>letI C:=W6 (9*(W6 (O+1)));if 0 <= C/\C <= C/\C<1073741824 then bw KB (((),(),((List.replicate C.toNat (0:Int)).length:Int),0,()),(((),(),()),((),(),()),([]:aa Int),([]:aa Int),(List.replicate C.toNat (0:Int)),([]:aa Int),())) λE=>some (⟨E.2.2.2.2.2.1,E.2.2.2.2.2.2.1⟩:c9)else none
def ags:=bZ tX [(true,.oA,2)] (bN KD) 27 [oa,rO] [atC] func61
def tZ(C:aG):ah (Int):=(me C).bind λD=>some (W6 ((W6 (D*C.rows))*C.aK))
def Gj:=bB tX dS (bN tZ) 11 [oa] func101
def Dv(C:Int):ah (Bool):=(cz C 0 4294967295).bind λD=>some D
def YM:=bB mb cy (bN Dv) 5 [eH] func187
def zd(C:Int):ah (Bool):=(cz C 0 15).bind λD=>some D
def KE:=bB mb cy (bN zd) 5 [eH] func75
abbrev agt:=(((aa Int)×Int×(aa Int)×Int×Int×af)×(af))
def Bb(x:agt):ah (agt⊕(((Bool×af)×(af))⊕((((aa Int)×Int×af)×(af))⊕Empty))):=letI C:=x.1.2.2;bif C.2.2.1<C.2.1 then xI C.1 C.2.2.1 λD=>(zd D).bind λE=>bif (!E)then az ((false,()),())else xG ((x.1.1,x.1.2.1,C.1,C.2.1,(W6 (C.2.2.1+1)),()),())else bx ((x.1.1,x.1.2.1,()),())
def atD:KY 21 (bf f170):=⟨0,lB 0 ⟨[(0,.lf (.aI .int 0)),(1,tI),(7,.lf (.aI .int 0)),(8,tI),(9,tI)],[],[]⟩ [(1,mc),(2,afv)] Bb,lp [KE]⟩
def w8(C:aa Int)(E:Int):ah (Bool):=bU Bb ((C,E,C,(C.length:Int),0,()),()) (λI=>some I.1.1) λD=>some ((D.1.1.length:Int)==D.1.2.1)
def KF:=bZ FU cy (bR w8) 21 [] [atD] func170
abbrev agu:=((Int×Int×Int×Int×af)×(af))
def agv(x:agu):ah (agu⊕(((Int×af)×(af))⊕Empty)):=letI E:=x.1.2.1;letI C:=x.1.2.2;letI O:=bits .xor .i64 C.1 x.1.1;letI I:=W6 (C.2.1+1);letI D:=W6 (x.1.1*2 ^ (min (1:Int).toNat IntKind.i64.bits));bif C.2.1<4 then if C.2.1<0 then none else bif ((bits .and .i64 (E.fdiv (2 ^ (min C.2.1.toNat IntKind.i64.bits))) 1)==1)then bif D > 15 then xG (((bits .xor .i64 D 19),E,O,I,()),())else xG ((D,E,O,I,()),())else bif D > 15 then xG (((bits .xor .i64 D 19),E,C.1,I,()),())else xG ((D,E,C.1,I,()),())else az ((C.1,()),())
def atE:KY 34 (bf f242):=⟨0,lB 0 Yf [(2,wW)] agv,lp []⟩
def kD(C D:Int):ah (Int):=(zd C).bind λE=>bif (!E)then some (-1)else (zd D).bind λI=>bif (!I)then some (-1)else bw agv ((C,D,0,0,()),()) λO=>some O.1.1
def KG:=bZ A3 dS (bR kD) 34 [KE] [atE] func242
abbrev agw:=((Int×Int×Int×af)×(af))
def agx(x:agw):ah (agw⊕(((Int×af)×(af))⊕Empty)):=bif x.1.2.1 > 0 then (kD x.1.2.2.1 x.1.1).bind λC=>xG ((x.1.1,(W6 (x.1.2.1-1)),C,()),())else az ((x.1.2.2.1,()),())
def atF:KY 22 (bf f288):=⟨0,lB 0 ⟨[(0,tI),(1,tI),(5,tI)],[],[]⟩ [(2,wW)] agx,lp [KG]⟩
def KH(C D:Int):ah (Int):=(zd C).bind λE=>bif (!E)then some (-1)else (cz D 0 1000).bind λI=>bif (!I)then some (-1)else bw agx ((C,D,1,()),()) λO=>some O.1.1
def agy:=bZ A3 dS (bR KH) 22 [eH,KE] [atF] func288
abbrev agz:=(((aa Int)×af×Int×Int×Int×(aa Int)×Int×Int×af)×((aa Int)×af))
def Dw(x:agz):ah (agz⊕((((aa Int)×af×Int×Int×af)×((aa Int)×af))⊕Empty)):=letI C:=x.1.2.2;letI D:=C.2.2;letI E:=D.2.2.2.1;bif E<D.2.2.1 then xI D.2.1 E λI=>xL x.2.1 C.1 λO=>(KH 2 (W6 (E*C.1))).bind λU=>(kD I U).bind λY=>xL x.2.1 C.1 λrN=>xG ((x.1.1,(),C.1,C.2.1,D.1,D.2.1,D.2.2.1,(W6 (E+1)),()),((x.2.1.set C.1.toNat (bits .xor .i64 O Y)),()))else az ((x.1.1,(),C.2.1,D.1,()),(x.2.1,()))
def atG:KY 38 (sZ (bf f240) 0):=⟨2,lB 2 ⟨[(0,.lf (.aI .int 0)),(3,.lf (.own 10)),(4,tI),(12,tI),(13,tI),(16,.lf (.aI .int 0)),(17,tI),(18,tI)],[(10,.sl .int 2)],[]⟩ [(4,ae7)] Dw,lp [KG,agy]⟩
abbrev agA:=(((aa Int)×af×Int×Int×af)×((aa Int)×af))
def Gk(x:agA):ah (agA⊕(((af×af)×((aa Int)×af))⊕Empty)):=letI C:=x.1.2.2;bif C.2.1<C.1 then bw Dw ((x.1.1,(),C.2.1,C.1,C.2.1,x.1.1,(x.1.1.length:Int),0,()),(x.2.1,())) λD=>xG ((D.1.1,(),D.1.2.2.1,(W6 (D.1.2.2.2.1+1)),()),(D.2.1,()))else az (((),()),(x.2.1,()))
def atH:KY 38 (bf f240):=⟨0,lB 0 ae7 [(2,⟨[(3,.lf (.own 10))],[(10,.sl .int 2)],[]⟩)] Gk,lq [] [atG]⟩
def Bc(D:aa Int):ah ((aa Int)):=letI C:=(3:Int);(w8 D 11).bind λE=>bif (!E)then some ([])else if 0 <= C/\C <= 3/\C<1073741824 then bw Gk ((D,(),((List.replicate C.toNat (0:Int)).length:Int),0,()),((List.replicate C.toNat (0:Int)),())) λI=>some I.2.1 else none
def YN:=bZ pT mL (bN Bc) 38 [KF] [atH] func240
abbrev agB:=((Int×Int×af)×(af))
def agC(x:agB):ah (agB⊕(((Int×af)×(af))⊕(((af)×(af))⊕Empty))):=bif x.1.2.1 <= 15 then (kD x.1.1 x.1.2.1).bind λC=>bif (C==1)then az ((x.1.2.1,()),())else xG ((x.1.1,(W6 (x.1.2.1+1)),()),())else bx ((),())
def atI:KY 13 (bf f241):=⟨0,lB 0 afN [(1,⟨[(2,tI)],[],[]⟩),(2,ic)] agC,lp [KG]⟩
def Dx(C:Int):ah (Int):=bU agC ((C,1,()),()) (λD=>some D.1.1) λE=>some (-1)
def agD:=bZ mb dS (bN Dx) 13 [] [atI] func241
def KI(Y:aa Int):ah ((aa Int)):=letI D:=(1:Int);letI E:=(3:Int);letI C:=(0:Int);letI O:=(List.replicate E.toNat C)++Y;(w8 Y 8).bind λy1=>bif (!y1)then some ([])else if 0 <= E/\E <= 3/\E<1073741824 then bif bE ((List.replicate E.toNat C).length+Y.length)then (Bc O).bind λI=>xL I C λe5=>xL I D λe8=>xL I C λrN=>xL I (2:Int) λoO=>letI u5:=bits .xor .i64 rN oO;(Dx 4).bind λiI=>(kD 2 (bits .xor .i64 e5 e8)).bind λny=>(kD 5 u5).bind λkR=>(kD (bits .xor .i64 ny kR) iI).bind λs7=>xL O D λvo=>(kD 3 u5).bind λlK=>(kD 5 (bits .xor .i64 e5 e8)).bind λpU=>(kD (bits .xor .i64 lK pU) iI).bind λpV=>letI U:=(O.set D.toNat s7).set (2:Int).toNat pV;xL (O.set D.toNat s7) (2:Int) λua=>xL I C λuc=>xL U D λKJ=>xL U (2:Int) λGl=>xL U C λe39=>some (U.set C.toNat (bits .xor .i64 (bits .xor .i64 uc KJ) Gl))else none else none
def atJ:=bB pT mL (bN KI) 63 [KF,YN,agD,KG] func188
abbrev agE:=((Int×af×Int×af)×((aa Int)×af))
def KK(x:agE):ah (agE⊕(((af×af)×((aa Int)×af))⊕Empty)):=letI C:=x.1.2.2.1;letI D:=([(bits .and .i64 (x.1.1.fdiv (2 ^ (min (W6 (4*C)).toNat IntKind.i64.bits))) 15)]:aa Int);bif C<8 then if (W6 (4*C))<0 then none else bif bE (x.2.1.length+D.length)then xG ((x.1.1,(),(W6 (C+1)),()),((x.2.1++D),()))else none else az (((),()),(x.2.1,()))
def atK:KY 22 (bf f189):=⟨0,lB 0 ⟨[(0,tI),(3,.lf (.own 8)),(4,tI)],[(8,.sl .int 2)],[]⟩ [(2,⟨[(3,.lf (.own 8))],[(8,.sl .int 2)],[]⟩)] KK,lp []⟩
def Q2(C:Int):ah ((aa Int)):=(Dv C).bind λD=>bif (!D)then some ([])else bw KK ((C,(),0,()),(([]:aa Int),())) λE=>some E.2.1
def atM:=bZ mb mL (bN Q2) 22 [YM] [atK] func189
def Bd(C:Int):ah ((aa Int)):=(Dv C).bind λD=>bif (!D)then some ([])else (Q2 C).bind λE=>(KI E).bind λI=>some I
def agF:=bB mb mL (bN Bd) 9 [YM,atJ,atM] func125
end Go.Proofs.YtdfkhfiglknaoaaGreat
