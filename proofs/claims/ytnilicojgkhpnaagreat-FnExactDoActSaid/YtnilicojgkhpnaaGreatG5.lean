/-
  Functions of the program as plain functions of contents, and that the code computes them. Nothing here is a claim.
-/
import Derived.Test.YtnilicojgkhpnaaGreatVZ
import Derived.Test.YtnilicojgkhpnaaGreatRows
import Derived.Test.YtnilicojgkhpnaaGreatG1
import Derived.Test.YtnilicojgkhpnaaGreatG2
import Derived.Test.YtnilicojgkhpnaaGreatG3
import Derived.Test.YtnilicojgkhpnaaGreatG4
namespace Go.Proofs.YtnilicojgkhpnaaGreat
set_option linter.defProp false
open Go.RowKit Go.Proofs.Tryz
set_option linter.unusedVariables false
set_option maxRecDepth 100000
def sO(C:aM):ah (Int):=(ye C).bind λD=>bif (!D)then some 0 else (pR C).bind λE=>some (W6 ((W6 (E*C.rows))*C.aO))
def KV:=aP CN cm (bG sO) 14 [oC,FG] func173
def yf(C:Int):ah (Bool):=(cD C 0 15).bind λD=>some D
def RR:=aP mz bR (bG yf) 5 [eU] func263
abbrev air:=(((aa Int)×Int×Int×af)×(af))
def As(x:air):ah (air⊕(((Bool×af)×(af))⊕((((aa Int)×Int×af)×(af))⊕Empty))):=bif x.1.2.2.1<(x.1.1.length:Int)then xI x.1.1 x.1.2.2.1 λC=>(yf C).bind λD=>bif (!D)then av ((false,()),())else xG ((x.1.1,x.1.2.1,(W6 (x.1.2.2.1+1)),()),())else aQ ((x.1.1,x.1.2.1,()),())
def awN:KY 22 (aW f295):=⟨0,lB 0 Y8 [(1,gR),(2,agF)] As,lp [RR]⟩
def uj(D:aa Int)(E:Int):ah (Bool):=bE As ((D,E,0,()),()) (λL=>some L.1.1) λC=>some ((C.1.1.length:Int)==C.1.2.1)
def FK:=bS Aj bR (bq uj) 22 [] [awN] func295
abbrev ais:=((af×Int×af)×(((aa bP)×(aa Int)×(aa Int)×af)×af))
def KW(x:ais):ah (ais⊕(((Bool×af)×(af))⊕(((af×af)×(((aa bP)×(aa Int)×(aa Int)×af)×af))⊕Empty))):=bif x.1.2.1<(x.2.1.1.length:Int)then xI x.2.1.1 x.1.2.1 λC=>(uj C.symbols 11).bind λD=>bif (!D)then av ((false,()),())else xG (((),(W6 (x.1.2.1+1)),()),(x.2.1,()))else aQ (((),()),(x.2.1,()))
def awO:KY 76 (aW f168):=⟨0,lB 0 ⟨[(3,.aH 3 0),(5,tI)],JC,[]⟩ [(1,gR),(2,agV)] KW,lp [FK]⟩
abbrev ait:=((af×Int×af)×(((aa bP)×(aa Int)×(aa Int)×af)×af))
def KZ(x:ait):ah (ait⊕(((Bool×af)×(af))⊕(((af)×(af))⊕Empty))):=bif x.1.2.1<(x.2.1.2.1.length:Int)then xI x.2.1.2.1 x.1.2.1 λC=>(cD C 0 100000).bind λD=>bif (!D)then av ((false,()),())else xI x.2.1.2.2.1 x.1.2.1 λE=>(cD E 0 100000).bind λL=>bif (!L)then av ((false,()),())else xG (((),(W6 (x.1.2.1+1)),()),(x.2.1,()))else aQ ((),())
def awP:KY 76 (aW f168):=⟨2,lB 2 ⟨[(3,.aH 3 0),(6,tI)],JC,[]⟩ [(1,gR),(4,fq)] KZ,lp [eU]⟩
def RS(D:aM)(C:cV):ah (Bool):=(ye D).bind λE=>bif (!E)then some false else (sO D).bind λL=>bif ((C.cells.length:Int) != L)then some false else (pR D).bind λO=>bif ((C.bx.length:Int) != (W6 (O*D.rows)))then some false else bif ((C.bw.length:Int) != (C.bx.length:Int))then some false else bE KW (((),0,()),((C.cells,C.bx,C.bw,()),())) (λT=>some T.1.1) λU=>bE KZ (((),0,()),(U.2.1,())) (λY=>some Y.1.1) λZ=>some true
def awQ:=bS [(true,.fA),(true,.Array)] bR (bq RS) 76 [KV,oC,FG] [awO,awP] func168
abbrev aiu:=(((aa Int)×Int×Int×af)×(af))
def K0(x:aiu):ah (aiu⊕(((Bool×af)×(af))⊕(((af)×(af))⊕Empty))):=bif x.1.2.2.1<(x.1.1.length:Int)then xI x.1.1 x.1.2.2.1 λC=>bif (C==x.1.2.1)then av ((true,()),())else xG ((x.1.1,x.1.2.1,(W6 (x.1.2.2.1+1)),()),())else aQ ((),())
def awR:KY 18 (aW f296):=⟨0,lB 0 Y8 [(1,gR),(2,fq)] K0,lp []⟩
def RT(C:aa Int)(D:Int):ah (Bool):=bE K0 ((C,D,0,()),()) (λE=>some E.1.1) λL=>some false
def awS:=bS Aj bR (bq RT) 18 [] [awR] func296
abbrev aiv:=((af×af×Int×Int×af)×((Int×Int×Int×Int×af)×(Int×(aa Int)×af)×af))
def K1(x:aiv):ah (aiv⊕(((Bool×af)×(af))⊕(((af)×(af))⊕Empty))):=letI E:=x.2.2.1.2.1;letI D:=x.1.2.2;letI C:=D.2.1;letI O:=xG (((),(),D.1,(W6 (C+1)),()),(x.2.1,x.2.2.1,()));letI L:=W6 ((W6 (C.tdiv D.1))*D.1);bif C<(E.length:Int)then xI E C λT=>if D.1=0 then none else bif (T==(C.tmod D.1))then O else xI E C λU=>(cD U D.1 (W6 (x.2.1.2.2.1-1))).bind λY=>bif (!Y)then av ((false,()),())else if D.1=0 then none else if 0 <= L/\L <= C/\C <= (E.length:Int)then xI E C λZ=>(RT ((E.take C.toNat).drop L.toNat) Z).bind λgS=>bif gS then av ((false,()),())else O else none else aQ ((),())
def awT:KY 77 (aW f169):=⟨0,lB 0 Y6 [(1,gR),(2,fq)] K1,lp [eU,awS]⟩
def FL(C:aM)(D:cQ):ah (Bool):=letI E:=W6 (C.rows-D.bQ);(KJ C D.bQ).bind λL=>bif (!L.2)then some false else (pR C).bind λO=>bif ((D.map.length:Int) != (W6 (O*E)))then some false else bE K1 (((),(),E,0,()),((C.cu,C.aC,C.rows,C.aO,()),(D.bQ,D.map,()),())) (λT=>some T.1.1) λU=>some true
def ZF:=bS Qr bR (bq FL) 77 [oC,aid] [awT] func169
abbrev aiw:=((af×Int×af)×(((aa Int)×Int×Bool×af)×af))
def K2(x:aiw):ah (aiw⊕(((Bool×af)×(af))⊕(((af×af)×(((aa Int)×Int×Bool×af)×af))⊕Empty))):=bif x.1.2.1<(x.2.1.1.length:Int)then xI x.2.1.1 x.1.2.1 λC=>(cD C (-2) 5).bind λD=>bif (!D)then av ((false,()),())else xG (((),(W6 (x.1.2.1+1)),()),(x.2.1,()))else aQ (((),()),(x.2.1,()))
def awU:KY 27 (aW f170):=⟨0,lB 0 ⟨[(1,.aH 1 0),(3,tI)],[(1,.aB CL)],[]⟩ [(1,oB),(2,agL)] K2,lp [eU]⟩
def At(C:cS):ah (Bool):=bE K2 (((),0,()),((C.aI,C.wait,C.dD,()),())) (λE=>some E.1.1) λD=>(cD (D.2.1.1.length:Int) 1 8).bind λL=>bif L then (cD D.2.1.2.1 1 10000).bind λO=>some O else some false
def K3:=bS CO bR (bG At) 27 [eU] [awU] func170
def Au(C:aM)(D:aJ):ah (Bool):=(pR C).bind λE=>(cD D.ay 0 (W6 (E-1))).bind λL=>bif L then (cD D.row 0 (W6 (C.rows-1))).bind λO=>bif O then (cD D.bT 0 (W6 (C.aO-1))).bind λT=>some T else some false else some false
def RU:=aP Qs bR (bq Au) 27 [eU,oC] func262
abbrev aix:=((af×Int×Int×af)×(((aa Int)×(aa Int)×Int×af)×af))
def FM(x:aix):ah (aix⊕(((Bool×af)×(af))⊕(((af×Int×af)×(((aa Int)×(aa Int)×Int×af)×af))⊕Empty))):=letI C:=x.1.2;letI D:=xG (((),C.1,(W6 (C.2.1+1)),()),(x.2.1,()));bif C.2.1<C.1 then xI x.2.1.1 C.1 λE=>bif E >= 0 then xI x.2.1.1 C.2.1 λL=>xI x.2.1.1 C.1 λO=>bif (L==O)then av ((false,()),())else D else D else aQ (((),C.1,()),(x.2.1,()))
def aiy:KY 90 (rD (aW f297) 0):=⟨2,lB 2 ⟨[(1,.aH 1 0),(3,tI),(4,tI)],Y7,[]⟩ [(1,oB),(4,agM)] FM,lp []⟩
abbrev aiz:=((af×Int×af)×(((aa Int)×(aa Int)×Int×af)×af))
def K4(x:aiz):ah (aiz⊕(((Bool×af)×(af))⊕(((af)×(af))⊕Empty))):=letI C:=x.2.1;letI D:=x.1.2.1;letI E:=av ((false,()),());letI L:=bE FM (((),D,0,()),(C,())) (λT=>av ((T.1.1,()),())) λO=>xG (((),(W6 (O.1.2.1+1)),()),(O.2.1,()));bif D<(C.1.length:Int)then xI C.1 D λU=>(cD U (-1) 15).bind λY=>bif (!Y)then E else xI C.2.1 D λZ=>(cD Z C.2.2.1 100000).bind λy8=>bif (!y8)then E else xI C.1 D λkE=>bif kE<0 then xI C.2.1 D λmA=>bif (mA != 0)then E else L else L else aQ ((),())
def awV:KY 90 (aW f297):=⟨0,lB 0 agM [(1,oB),(2,fq)] K4,lq [eU] [aiy,aiy]⟩
def C6(C:bV):ah (Bool):=(cD (C.rows.length:Int) 1 16).bind λD=>bif (!D)then some false else bif ((C.rows.length:Int) != (C.counts.length:Int))then some false else (cD C.dg 0 100000).bind λE=>bif (!E)then some false else bE K4 (((),0,()),((C.rows,C.counts,C.dg,()),())) (λL=>some L.1.1) λO=>some true
def aiA:=bS JN bR (bG C6) 90 [eU] [awV] func297
abbrev aiB:=(((aa aJ)×af×Int×af)×((Int×Int×Int×af)×af))
def K5(x:aiB):ah (aiB⊕(((Int×af)×(af))⊕(((af)×(af))⊕Empty))):=letI C:=x.1.2.2.1;bif C<(x.1.1.length:Int)then xI x.1.1 C λD=>bif ((D.ay==x.2.1.1)&&((D.row==x.2.1.2.1)&&((D.bT==x.2.1.2.2.1)&&true)))then av ((C,()),())else xG ((x.1.1,(),(W6 (C+1)),()),(x.2.1,()))else aQ ((),())
def awW:KY 19 (aW f298):=⟨0,lB 0 ⟨[(0,.lf (.aF .Addr 0)),(3,.aH 3 0),(5,tI)],[(3,.aB JH)],[]⟩ [(1,kC),(2,fq)] K5,lp []⟩
def C7(D:aa aJ)(C:aJ):ah (Int):=bE K5 ((D,(),0,()),((C.ay,C.row,C.bT,()),())) (λE=>some E.1.1) λL=>some (-1)
def ZG:=bS Ze cm (bq C7) 19 [] [awW] func298
abbrev aiC:=((af×Int×Int×af)×(ax×af))
def RX(x:aiC):ah (aiC⊕(((Bool×af)×(af))⊕(((af×af)×(ax×af))⊕Empty))):=letI C:=x.1.2.2.1;bif C<x.1.2.1 then xI x.2.1.bJ C λD=>(C6 D).bind λE=>bif (!E)then av ((false,()),())else xI x.2.1.guard C λL=>(cD L 3 1000).bind λO=>bif (!O)then av ((false,()),())else xG (((),x.1.2.1,(W6 (C+1)),()),(x.2.1,()))else aQ (((),()),(x.2.1,()))
def awX:KY 89 (aW f171):=⟨0,lB 0 ⟨[(1,.aH 1 0),(3,tI),(4,tI)],[(1,.st .cN)],[]⟩ [(1,oB),(2,⟨[(1,.aH 1 0)],[(1,.st .cN)],[]⟩)] RX,lp [eU,aiA]⟩
abbrev aiD:=((af×Int×af)×(ax×af))
def RY(x:aiD):ah (aiD⊕(((Bool×af)×(af))⊕(((af)×(af))⊕Empty))):=letI C:=av ((false,()),());bif x.1.2.1<(x.2.1.pending.length:Int)then xI x.2.1.pending x.1.2.1 λD=>(Au x.2.1.config.az D).bind λE=>bif (!E)then C else bif (D.bT != 0)then C else (C7 x.2.1.pending D).bind λL=>bif (L != x.1.2.1)then C else xG (((),(W6 (x.1.2.1+1)),()),(x.2.1,()))else aQ ((),())
def awY:KY 89 (aW f171):=⟨2,lB 2 ⟨[(1,.aH 1 0),(5,tI)],[(1,.st .cN)],[]⟩ [(1,oB),(4,fq)] RY,lp [RU,ZG]⟩
def RZ(C:ax):ah (Bool):=(pR C.config.az).bind λD=>bif ((C.aV.aI.length:Int) != D)then some false else bif ((C.bJ.length:Int) != D)then some false else bif ((C.guard.length:Int) != D)then some false else bif (C.pending.length:Int) > 128 then some false else bE RX (((),D,0,()),(C,())) (λE=>some E.1.1) λL=>bE RY (((),0,()),(L.2.1,())) (λO=>some O.1.1) λT=>some true
def awZ:=bS sN bR (bG RZ) 89 [oC] [awX,awY] func171
def K6(C:Int):ah (Bool):=(cD C 0 4294967295).bind λD=>some D
def aiE:=aP mz bR (bG K6) 5 [eU] func385
def R0(E:Int)(C:aK):ah (Bool):=letI D:=(cD C.at_ 0 1000000).bind λL=>some L;(cD C.id 1 100000).bind λO=>bif O then (cD C.dm 0 3).bind λT=>bif T then bif C.line >= 0 then bif C.line<E then (K6 C.data).bind λU=>bif U then bif C.write then D else bif (C.data==0)then D else some false else some false else some false else some false else some false else some false
def aw0:=aP [(false,.int),(true,.cW)] bR (bq R0) 43 [eU,aiE] func299
def R1(C D:aK):ah (Bool):=bif C.at_<D.at_ then some true else bif (C.at_==D.at_)then some (C.id<D.id)else some false
def aiF:=aP Zi bR (bq R1) 24 [] func300
abbrev aiG:=(((aa aK)×Int×Int×af)×(af))
def K7(x:aiG):ah (aiG⊕(((Int×af)×(af))⊕(((af)×(af))⊕Empty))):=letI C:=x.1.2.2.1;bif C<(x.1.1.length:Int)then xI x.1.1 C λD=>bif (D.id==x.1.2.1)then av ((C,()),())else xG ((x.1.1,x.1.2.1,(W6 (C+1)),()),())else aQ ((),())
def aw1:KY 20 (aW f301):=⟨0,lB 0 Y9 [(1,kC),(2,fq)] K7,lp []⟩
def K8(C:aa aK)(D:Int):ah (Int):=bE K7 ((C,D,0,()),()) (λE=>some E.1.1) λL=>some (-1)
def aiH:=bS Fo cm (bq K8) 20 [] [aw1] func301
abbrev aiI:=((Int×(aa aK)×Int×af)×(af))
def K9(x:aiI):ah (aiI⊕(((Bool×af)×(af))⊕(((af)×(af))⊕Empty))):=letI E:=av ((false,()),());letI D:=x.1.2.1;letI C:=x.1.2.2.1;letI L:=xI D C λO=>(K8 D O.id).bind λT=>bif (T != C)then E else xG ((x.1.1,D,(W6 (C+1)),()),());bif C<(D.length:Int)then xI D C λU=>(R0 x.1.1 U).bind λY=>bif (!Y)then E else bif C > 0 then xI D (W6 (C-1)) λZ=>xI D C λe7=>(R1 Z e7).bind λy8=>bif (!y8)then E else L else L else aQ ((),())
def aw2:KY 50 (aW f172):=⟨0,lB 0 ⟨[(0,tI),(1,.lf (.aF .cW 0)),(5,tI)],[],[]⟩ [(1,gR),(2,fq)] K9,lp [aw0,aiF,aiH]⟩
def v9(D:Int)(C:aa aK):ah (Bool):=bif (C.length:Int) > 12 then some false else bE K9 ((D,C,0,()),()) (λE=>some E.1.1) λL=>some true
def aiJ:=bS [(false,.int),(false,(.sl .cW))] bR (bq v9) 50 [] [aw2] func172
def R2(C:aM)(D:cQ):ah (aM):=(FL C D).bind λE=>bif (!E)then some (⟨0,0,0,0⟩:aM)else some (⟨C.cu,C.aC,(W6 (C.rows-D.bQ)),C.aO⟩:aM)
def aw3:=aP Qr [(true,.fA,0)] (bq R2) 17 [ZF] func174
def we(C:eN):ah (Bool):=(cD C.state 0 2).bind λD=>bif D then (cD C.since 0 1000000).bind λE=>bif E then (cD C.idle 0 1000000).bind λL=>some L else some false else some false
def R3:=aP [(true,.Power)] bR (bG we) 16 [eU] func177
def FN(C:bW):ah (Bool):=letI D:=(cD C.times 1 999).bind λE=>some E;(cD C.line 0 1023).bind λL=>bif L then bif (C.code==1)then D else bif (C.code==2)then D else some false else some false
def aiK:=aP [(true,.eH)] bR (bG FN) 21 [eU] func302
abbrev aiL:=(((aa bW)×Int×Int×Int×af)×(af))
def La(x:aiL):ah (aiL⊕(((Int×af)×(af))⊕(((af)×(af))⊕Empty))):=letI C:=x.1.2.2.2.1;letI D:=xG ((x.1.1,x.1.2.1,x.1.2.2.1,(W6 (C+1)),()),());bif C<(x.1.1.length:Int)then xI x.1.1 C λE=>bif (E.line==x.1.2.1)then xI x.1.1 C λL=>bif (L.code==x.1.2.2.1)then av ((C,()),())else D else D else aQ ((),())
def aw4:KY 31 (aW f303):=⟨0,lB 0 ⟨[(0,.lf (.aF .eH 0)),(1,tI),(2,tI),(7,tI)],[],[]⟩ [(1,JI),(2,fq)] La,lp []⟩
def Lb(C:aa bW)(D E:Int):ah (Int):=bE La ((C,D,E,0,()),()) (λL=>some L.1.1) λO=>some (-1)
def aiM:=bS Za cm (fO Lb) 31 [] [aw4] func303
abbrev aiN:=(((aa bW)×Int×af)×(af))
def Lc(x:aiN):ah (aiN⊕(((Bool×af)×(af))⊕(((af)×(af))⊕Empty))):=letI C:=x.1.2.1;bif C<(x.1.1.length:Int)then xI x.1.1 C λD=>(FN D).bind λE=>bif (!E)then av ((false,()),())else xI x.1.1 C λL=>xI x.1.1 C λO=>(Lb x.1.1 L.line O.code).bind λT=>bif (T != C)then av ((false,()),())else xG ((x.1.1,(W6 (C+1)),()),())else aQ ((),())
def aw5:KY 35 (aW f178):=⟨0,lB 0 ⟨[(0,.lf (.aF .eH 0)),(3,tI)],[],[]⟩ [(1,oB),(2,fq)] Lc,lp [aiK,aiM]⟩
def Ld(C:aa bW):ah (Bool):=bif (C.length:Int) > 6 then some false else bE Lc ((C,0,()),()) (λD=>some D.1.1) λE=>some true
def aiO:=bS Qu bR (bG Ld) 35 [] [aw5] func178
def R4(C:ax):ah (Bool):=(C5 C.config C.box.bH).bind λD=>bif (!D)then some false else (C5 C.config C.box.next).bind λE=>bif (!E)then some false else (cD C.now 0 1000000).bind λL=>bif (!L)then some false else (RO C.config.az C.br).bind λO=>bif (!O)then some false else (KU C.config.az C.ready).bind λT=>bif (!T)then some false else (RS C.config.az C.array).bind λU=>bif (!U)then some false else (FL C.config.az C.spare).bind λY=>bif (!Y)then some false else bif (C.spare.bQ != C.config.bQ)then some false else (At C.aV).bind λZ=>bif (!Z)then some false else (RZ C).bind λy9=>bif (!y9)then some false else (R2 C.config.az C.spare).bind λgS=>(sO gS).bind λeP=>(v9 eP C.queue).bind λgC=>bif (!gC)then some false else (FJ C.shares).bind λgD=>bif (!gD)then some false else bif ((C.shares.length:Int) != 4)then some false else (C3 C.drain).bind λiV=>bif (!iV)then some false else (we C.bf).bind λig=>bif (!ig)then some false else bif (C.bf.state != C.br.bf)then some false else bif C.bf.since > C.now then some false else (cD C.cH.every 1 100000).bind λjH=>bif jH then (cD C.cH.wait 1 C.cH.every).bind λhG=>bif hG then (sO C.config.az).bind λkD=>(cD C.cH.next 0 (W6 (kD-1))).bind λuk=>bif uk then (Ld C.errors).bind λAv=>bif Av then bif (C.trace.length:Int) <= 2000 then some ((C.cy.length:Int) <= 400)else some false else some false else some false else some false else some false
def aw6:=aP sN bR (bG R4) 161 [eU,aim,awJ,aiq,awQ,ZF,K3,awZ,aiJ,KV,aw3,ZE,RM,R3,aiO] func51
def Le(C:gP)(D:Int):ah (gP):=letI E:=some (⟨false,C.low,C.high⟩:gP);(C3 C).bind λL=>bif (!L)then some C else bif D >= C.high then bif D <= C.low then E else some (⟨true,C.low,C.high⟩:gP)else bif D <= C.low then E else some C
def aw7:=aP [(true,.lD),(false,.int)] [(true,.lD,0)] (bq Le) 20 [RM] func181
abbrev aiP:=(((aa aK)×Bool×Int×Int×af)×(af))
def Lg(x:aiP):ah (aiP⊕(((Int×af)×(af))⊕Empty)):=letI C:=x.1.2.2;bif C.2.1<(x.1.1.length:Int)then xI x.1.1 C.2.1 λD=>bif (D.write==x.1.2.1)then xG ((x.1.1,x.1.2.1,(W6 (C.1+1)),(W6 (C.2.1+1)),()),())else xG ((x.1.1,x.1.2.1,C.1,(W6 (C.2.1+1)),()),())else av ((C.1,()),())
def aw8:KY 23 (aW f182):=⟨0,lB 0 ⟨[(0,.lf (.aF .cW 0)),(1,tB),(5,tI),(6,tI)],[],[]⟩ [(2,v8)] Lg,lp []⟩
def Lh(C:aa aK)(D:Bool):ah (Int):=bk Lg ((C,D,0,0,()),()) λE=>some E.1.1
def aw9:=bS [(false,(.sl .cW)),(false,.bool)] cm (bq Lh) 23 [] [aw8] func182
def Li(C:eN)(E:Bool):ah (eN):=letI D:=W6 (C.idle+1);(we C).bind λL=>bif (!L)then some C else bif E then some (⟨C.state,C.since,0⟩:eN)else some (⟨C.state,C.since,(if 1000000<D then 1000000 else D)⟩:eN)
def axa:=aP [(true,.Power),(false,.bool)] [(true,.Power,0)] (bq Li) 17 [R3] func183
abbrev aiQ:=((af×af×Int×af)×(((aa Int)×Int×Bool×af)×(aa Int)×af))
def Lj(x:aiQ):ah (aiQ⊕(((af×af)×((aa Int)×af))⊕Empty)):=letI C:=x.2.1;letI E:=av (((),()),(x.2.2.1,()));letI D:=x.1.2.2.1;letI L:=((),(),(W6 (D+1)),());bif D<(C.1.length:Int)then (At (⟨C.1,C.2.1,C.2.2.1⟩:cS)).bind λO=>bif O then xI C.1 D λT=>bif T >= 4 then bif bM (x.2.2.1.length+([D]:aa Int).length)then xG (L,(C,(x.2.2.1++([D]:aa Int)),()))else none else xG (L,(C,x.2.2.1,()))else E else E
def axb:KY 28 (aW f304):=⟨0,lB 0 ⟨agU,[(1,.aB CL),(5,.sl .int 2)],[]⟩ [(2,Y5)] Lj,lp [K3]⟩
def Lk(C:cS):ah ((aa Int)):=bk Lj (((),(),0,()),((C.aI,C.wait,C.dD,()),([]:aa Int),())) λD=>some D.2.1
def aiR:=bS CO mw (bG Lk) 28 [] [axb] func304
def C8(C:ax):ah (Bool):=bif (C.queue.length:Int) > 0 then some true else bif (C.pending.length:Int) > 0 then some true else (Lk C.aV).bind λD=>some ((D.length:Int) > 0)
def ZH:jb:=gQ [(false,.lW)] [(false,.bool,0)] (λx=>C8 x.1)
def aiS:enters Tryz.prog 184/\iH Tryz.prog 184 ZH:=kp 26 [aiR] func184
def Ll(C:fM)(E:Bool):ah (fM×Bool):=(KD C).bind λD=>bif (!E)then some (D,false)else bif (!C.waits)then some (D,false)else (CZ C.next).bind λL=>some ((⟨L,D.next,false⟩:fM),true)
def axc:=aP [(true,.jM),(false,.bool)] Qn (bq Ll) 23 [ZA,Zz] func185
def C9(C:lV)(E:Int):ah (lV×Int):=letI D:=some (C,(-1));(cD C.every 1 100000).bind λL=>bif (!L)then D else (cD C.wait 1 C.every).bind λO=>bif (!O)then D else bif E<1 then D else bif C.next<0 then D else bif C.next >= E then D else bif (W6 (C.wait-1)) > 0 then some ((⟨C.next,C.every,(W6 (C.wait-1))⟩:lV),(-1))else if E=0 then none else some ((⟨((W6 (C.next+1)).tmod E),C.every,C.every⟩:lV),C.next)
def axd:=aP [(true,.oa),(false,.int)] [(true,.oa,0),(false,.int,0)] (bq C9) 55 [eU] func187
abbrev aiT:=((Int×Int×Int×Int×af)×(af))
def aiU(x:aiT):ah (aiT⊕(((Int×af)×(af))⊕Empty)):=letI C:=x.1.2;letI D:=C.2.2.1;letI E:=min (IntKind.u64.wrap D).toNat IntKind.i64.bits;bif D<4 then if (IntKind.u64.wrap D)<0 then none else bif ((bits .and .i64 (C.1.fdiv (2 ^ E)) 1)==1)then if (IntKind.u64.wrap D)<0 then none else xG ((x.1.1,C.1,(bits .xor .i64 C.2.1 (W6 (x.1.1*2 ^ E))),(W6 (D+1)),()),())else xG ((x.1.1,C.1,C.2.1,(W6 (D+1)),()),())else av ((C.2.1,()),())
def axe:KY 49 (aW f445):=⟨0,lB 0 Y4 [(2,v8)] aiU,lp []⟩
abbrev aiV:=((Int×Int×af)×(af))
def aiW(x:aiV):ah (aiV⊕(((Int×af)×(af))⊕Empty)):=letI C:=x.1.2.1;bif C >= 4 then if (IntKind.u64.wrap C)<0 then none else bif ((bits .and .i64 (x.1.1.fdiv (2 ^ (min (IntKind.u64.wrap C).toNat IntKind.i64.bits))) 1)==1)then if (IntKind.u64.wrap (W6 (C-4)))<0 then none else xG (((bits .xor .i64 x.1.1 (W6 ((19:Int)*2 ^ (min (IntKind.u64.wrap (W6 (C-4))).toNat IntKind.i64.bits)))),(W6 (C-1)),()),())else xG ((x.1.1,(W6 (C-1)),()),())else av ((x.1.1,()),())
def axf:KY 49 (aW f445):=⟨2,lB 2 ⟨[(5,tI),(7,tI)],[],[]⟩ [(4,v8)] aiW,lp []⟩
def um(C D:Int):ah (Int):=(yf C).bind λE=>bif (!E)then some (-1)else (yf D).bind λL=>bif (!L)then some (-1)else bk aiU ((C,D,0,0,()),()) λO=>bk aiW ((O.1.1,6,()),()) λT=>some T.1.1
def Ln:=bS Fq cm (bq um) 49 [RR] [axe,axf] func445
abbrev aiX:=((Int×Int×Int×Int×af)×(af))
def aiY(x:aiX):ah (aiX⊕(((Int×af)×(af))⊕Empty)):=bif x.1.2.2.2.1<x.1.2.1 then (um x.1.2.2.1 x.1.1).bind λC=>xG ((x.1.1,x.1.2.1,C,(W6 (x.1.2.2.2.1+1)),()),())else av ((x.1.2.2.1,()),())
def axg:KY 24 (aW f444):=⟨0,lB 0 Y4 [(2,v8)] aiY,lp [Ln]⟩
def FO(C D:Int):ah (Int):=(yf C).bind λE=>bif (!E)then some (-1)else (cD D 0 1000).bind λL=>bif (!L)then some (-1)else bk aiY ((C,D,1,0,()),()) λO=>some O.1.1
def ZI:=bS Fq cm (bq FO) 24 [eU,RR] [axg] func444
abbrev aiZ:=(((aa Int)×af×Int×Int×Int×Int×af)×((aa Int)×af))
def FP(x:aiZ):ah (aiZ⊕((((aa Int)×af×Int×af)×((aa Int)×af))⊕Empty)):=letI C:=x.1.2.2.2;letI D:=C.2.2.1;bif D<3 then xL x.2.1 D λE=>xI x.1.1 x.1.2.2.1 λL=>(um L C.1).bind λO=>xL x.2.1 D λU=>(um C.1 C.2.1).bind λT=>xG ((x.1.1,(),x.1.2.2.1,T,C.2.1,(W6 (D+1)),()),((x.2.1.set D.toNat (bits .xor .i64 E O)),()))else av ((x.1.1,(),x.1.2.2.1,()),(x.2.1,()))
def axh:KY 43 (rD (aW f442) 0):=⟨2,lB 2 ⟨[(0,.lf (.aF .int 0)),(3,.lf (.own 12)),(4,tI),(5,tI),(6,tI),(7,tI)],[(12,.sl .int 2)],[]⟩ [(4,agl)] FP,lp [Ln]⟩
abbrev ai0:=(((aa Int)×af×Int×af)×((aa Int)×af))
def Lo(x:ai0):ah (ai0⊕(((af×af)×((aa Int)×af))⊕Empty)):=bif x.1.2.2.1<(x.1.1.length:Int)then (FO 2 x.1.2.2.1).bind λD=>bk FP ((x.1.1,(),x.1.2.2.1,1,D,0,()),(x.2.1,())) λC=>xG ((C.1.1,(),(W6 (C.1.2.2.1+1)),()),(C.2.1,()))else av (((),()),(x.2.1,()))
def axi:KY 43 (aW f442):=⟨0,lB 0 agl [(2,⟨[(3,.lf (.own 12))],[(12,.sl .int 2)],[]⟩)] Lo,lq [ZI] [axh]⟩
def R5(C:aa Int):ah ((aa Int)):=(uj C 11).bind λD=>bif (!D)then some ([]:aa Int)else if 0 <= (3:Int)/\(3:Int) <= 3/\(3:Int)<1073741824 then bk Lo ((C,(),0,()),((List.replicate (3:Int).toNat (0:Int)),())) λE=>some E.2.1 else none
def axj:=bS nS mw (bG R5) 43 [FK] [axi] func442
def FQ(C:aa Int):ah (Bool):=xI C (0:Int) λD=>bif (D==0)then xI C (1:Int) λE=>bif (E==0)then xI C (2:Int) λL=>some (L==0)else some false else some false
def axk:=aP nS bR (bG FQ) 19 [] func443
abbrev ai1:=((af×af×Int×af)×((aa Int)×(aa Int)×af))
def Da(x:ai1):ah (ai1⊕(((af×Int×Int×af)×((aa Int)×af))⊕(((af×af)×((aa Int)×af))⊕Empty))):=letI C:=x.2.2.1;letI D:=x.1.2.2.1;letI E:=xG (((),(),(W6 (D+1)),()),(x.2.1,C,()));bif D<11 then (FO 2 D).bind λL=>xL C (0:Int) λO=>bif (O != 0)then xL C (0:Int) λT=>xL C (1:Int) λU=>(um T L).bind λY=>bif (Y==U)then xL C (1:Int) λZ=>xL C (2:Int) λDb=>(um Z L).bind λFR=>bif (FR==Db)then xL x.2.1 D λZJ=>xL C (0:Int) λsP=>xL x.2.1 D λwg=>av (((),1,D,()),((x.2.1.set D.toNat (bits .xor .i64 ZJ sP)),()))else E else E else E else aQ (((),()),(x.2.1,()))
def axl:KY 67 (aW f386):=⟨0,lB 0 ⟨[(5,.lf (.own 13)),(6,.lf (.own 1000000000117000)),(7,tI)],[(13,.sl .int 2),(1000000000117000,.sl .int 2)],[]⟩ [(1,⟨[(2,.lf (.own 13)),(3,tI),(4,tI)],[(13,.sl .int 2)],[]⟩),(2,⟨[(5,.lf (.own 13))],[(13,.sl .int 2)],[]⟩)] Da,lp [ZI,Ln]⟩
def R6(C:aa Int):ah ((aa Int)×Int×Int):=(uj C 11).bind λL=>bif (!L)then some (([]:aa Int),2,(-1))else bif xZ C then (R5 C).bind λE=>(FQ E).bind λO=>bif O then some ((xA C),0,(-1))else bE Da (((),(),0,()),((xA C),E,())) (λD=>some (D.2.1,D.1.2.1,D.1.2.2.1)) λT=>some (T.2.1,2,(-1))else none
def axm:=bS nS [(false,(.sl .int),2),(false,.int,0),(false,.int,0)] (bG R6) 67 [FK,axj,axk] [axl] func386
abbrev ai2:=(((aa Int)×Int×Int×af)×(af))
def Lp(x:ai2):ah (ai2⊕(((Int×af)×(af))⊕Empty)):=letI C:=x.1.2.2.1;bif C<(x.1.1.length:Int)then xI x.1.1 C λD=>if (IntKind.u64.wrap (W6 (4*C)))<0 then none else xG ((x.1.1,(bits .or .i64 x.1.2.1 (W6 (D*2 ^ (min (IntKind.u64.wrap (W6 (4*C))).toNat IntKind.i64.bits)))),(W6 (C+1)),()),())else av ((x.1.2.1,()),())
def axn:KY 26 (aW f387):=⟨0,lB 0 ⟨[(0,.lf (.aF .int 0)),(4,tI),(5,tI)],[],[]⟩ [(2,kC)] Lp,lp []⟩
def R7(C:aa Int):ah (Int×Bool):=(uj C 8).bind λD=>bif (!D)then some (0,false)else bk Lp ((C,0,0,()),()) λE=>some (E.1.1,true)
def axo:=bS nS [(false,.int,0),(false,.bool,0)] (bG R7) 26 [FK] [axn] func387
def R8(D:aa Int):ah ((aa Int)):=letI C:=(D.length:Int);letI E:=(D.take C.toNat).drop (3:Int).toNat;(uj D 11).bind λL=>bif (!L)then some ([]:aa Int)else if 0 <= (3:Int)/\3 <= C/\C <= C then bif xZ E then some (xA E)else none else none
def axp:=aP nS mw (bG R8) 11 [FK] func388
def R9(D:aa Int):ah (Int×Int×Int):=(R6 D).bind λC=>bif (C.2.1==2)then some (0,C.2.1,C.2.2)else (R8 C.1).bind λE=>(R7 E).bind λL=>some (L.1,C.2.1,C.2.2)
def axq:=aP nS [(false,.int,0),(false,.int,0),(false,.int,0)] (bG R9) 29 [axm,axo,axp] func305
abbrev ai3:=((af×af×Int×af×Int×af)×((aa Int)×(aa Int)×(aa Int)×af))
def ai4(x:ai3):ah (ai3⊕(((af×Int×af×af)×((aa Int)×(aa Int)×af))⊕Empty)):=letI C:=x.2.2;letI D:=x.1.2.2.2.2.1;letI E:=W6 (D+1);bif D<(C.1.length:Int)then xL C.2.1 E λO=>xL C.1 D λT=>letI L:=C.2.1.set E.toNat (bits .xor .i64 O T);xL C.2.1 E λZK=>xL L D λU=>xL C.1 D λY=>(FO 2 x.1.2.2.1).bind λZ=>(um Y Z).bind λAw=>xL L D λe42=>xG (((),(),x.1.2.2.1,(),E,()),(x.2.1,C.1,(L.set D.toNat (bits .xor .i64 U Aw)),()))else av (((),x.1.2.2.1,(),()),(x.2.1,C.2.1,()))
def axr:KY 116 (rD (aW f389) 0):=⟨2,lB 2 ⟨[(3,.lf (.own 18)),(4,.lf (.own 99004)),(5,tI),(6,.lf (.own 29)),(7,tI)],[(18,.sl .int 2),(99004,.sl .int 2),(29,.sl .int 2)],[]⟩ [(4,⟨[(3,.lf (.own 18)),(5,tI),(6,.lf (.own 29))],[(18,.sl .int 2),(29,.sl .int 2)],[]⟩)] ai4,lp [ZI,Ln]⟩
abbrev ai5:=((af×af×Int×af)×((aa Int)×(aa Int)×af))
def ZL(x:ai5):ah (ai5⊕(((af×af×af)×((aa Int)×(aa Int)×af))⊕Empty)):=letI C:=W6 ((x.2.2.1.length:Int)+1);bif x.1.2.2.1<3 then if 0 <= C/\C <= C/\C<1073741824 then bk ai4 (((),(),x.1.2.2.1,(),0,()),(x.2.1,x.2.2.1,(List.replicate C.toNat (0:Int)),())) λD=>xG (((),(),(W6 (D.1.2.1+1)),()),(D.2.1,D.2.2.1,()))else none else av (((),(),()),(x.2.1,x.2.2.1,()))
def axt:KY 116 (aW f389):=⟨0,lB 0 ⟨[(3,.lf (.own 18)),(4,.lf (.own 99004)),(5,tI)],[(18,.sl .int 2),(99004,.sl .int 2)],[]⟩ [(2,⟨[(3,.lf (.own 18)),(4,.lf (.own 99004))],[(18,.sl .int 2),(99004,.sl .int 2)],[]⟩)] ZL,lq [] [axr]⟩
abbrev ai6:=((af×af×af×Int×Int×Int×af)×((aa Int)×(aa Int)×(aa Int)×af))
def FT(x:ai6):ah (ai6⊕(((af×af×af×Int×af)×((aa Int)×(aa Int)×(aa Int)×af))⊕Empty)):=letI C:=x.2.2;letI D:=x.1.2.2.2;letI E:=D.2.2.1;letI L:=W6 ((W6 (D.1-3))+E);bif E<(C.1.length:Int)then xL C.2.1 L λO=>xL C.1 E λT=>(um T D.2.1).bind λU=>xL C.2.1 L λY=>xG (((),(),(),D.1,D.2.1,(W6 (E+1)),()),(x.2.1,C.1,(C.2.1.set L.toNat (bits .xor .i64 O U)),()))else av (((),(),(),D.1,()),(x.2.1,C.1,C.2.1,()))
def axu:KY 116 (rD (aW f389) 4):=⟨6,lB 6 ⟨[(3,.lf (.own 18)),(4,.lf (.own 99004)),(8,.lf (.own 66)),(9,tI),(10,tI),(11,tI)],aga,[]⟩ [(8,agb)] FT,lp [Ln]⟩
abbrev ai7:=((af×af×af×Int×af)×((aa Int)×(aa Int)×(aa Int)×af))
def FU(x:ai7):ah (ai7⊕(((af×af×af)×((aa Int)×(aa Int)×af))⊕Empty)):=letI D:=x.1.2.2.2.1;bif D >= 3 then xL x.2.2.2.1 D λE=>bk FT (((),(),(),D,E,0,()),(x.2.1,x.2.2.1,x.2.2.2.1,())) λC=>xG (((),(),(),(W6 (C.1.2.2.2.1-1)),()),(C.2.1,C.2.2.1,C.2.2.2.1,()))else av (((),(),()),(x.2.1,x.2.2.2.1,()))
def axv:KY 116 (aW f389):=⟨4,lB 4 agb [(6,⟨[(3,.lf (.own 18)),(8,.lf (.own 66))],[(18,.sl .int 2),(66,.sl .int 2)],[]⟩)] FU,lq [] [axu]⟩
abbrev ai8:=((af×af×Int×af)×((aa Int)×(aa Int)×af))
def Lq(x:ai8):ah (ai8⊕(((af×af)×((aa Int)×af))⊕Empty)):=letI C:=x.1.2.2.1;bif C<3 then xL x.2.2.1 C λD=>xL x.2.1 C λE=>xG (((),(),(W6 (C+1)),()),((x.2.1.set C.toNat D),x.2.2.1,()))else av (((),()),(x.2.1,()))
def axw:KY 116 (aW f389):=⟨8,lB 8 ⟨[(3,.lf (.own 18)),(8,.lf (.own 66)),(13,tI)],[(18,.sl .int 2),(66,.sl .int 2)],[]⟩ [(10,⟨[(3,.lf (.own 18))],[(18,.sl .int 2)],[]⟩)] Lq,lp []⟩
def Ax(E:aa Int):ah ((aa Int)):=letI C:=(3:Int);(uj E 8).bind λO=>bif (!O)then some ([]:aa Int)else if 0 <= C/\C <= 3/\C<1073741824 then bif bM ((List.replicate C.toNat (0:Int)).length+E.length)then bk ZL (((),(),1,()),(((List.replicate C.toNat (0:Int))++E),([1,1]:aa Int),())) λD=>bif xZ D.2.1 then bk FU (((),(),(),(W6 (((xA D.2.1).length:Int)-1)),()),(D.2.1,D.2.2.1,(xA D.2.1),())) λL=>bk Lq (((),(),0,()),(L.2.1,L.2.2.1,())) λT=>some T.2.1 else none else none else none
def axx:=bS nS mw (bG Ax) 116 [FK] [axt,axv,axw] func389
end Go.Proofs.YtnilicojgkhpnaaGreat
