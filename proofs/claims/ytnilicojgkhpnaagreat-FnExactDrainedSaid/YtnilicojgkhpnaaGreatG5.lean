/-
  Functions of the program as plain functions of contents, and that the code computes them. Nothing here is a claim.
-/
import Derived.Test.YtnilicojgkhpnaaGreatVZ
import Derived.Test.YtnilicojgkhpnaaGreatRows
import Derived.Test.YtnilicojgkhpnaaGreatG1
import Derived.Test.YtnilicojgkhpnaaGreatG2
import Derived.Test.YtnilicojgkhpnaaGreatG3
import Derived.Test.YtnilicojgkhpnaaGreatG4
namespace Go.Proofs.YtnilicojgkhpnaaGreat
set_option linter.defProp false
open Go.RowKit Go.Proofs.Tryz
set_option linter.unusedVariables false
set_option maxRecDepth 100000
def Cx(C:Int):ah (Bool):=(cG C 0 15).bind λD=>some D
def X3:=aM lM bS (bF Cx) 5 [eO] func263
abbrev agG:=(((aa Int)×Int×Int×af)×(af))
def zZ(x:agG):ah (agG⊕(((Bool×af)×(af))⊕((((aa Int)×Int×af)×(af))⊕Empty))):=bif x.1.2.2.1<(x.1.1.length:Int)then xI x.1.1 x.1.2.2.1 λC=>(Cx C).bind λD=>bif (!D)then av ((false,()),())else xG ((x.1.1,x.1.2.1,(W6 (x.1.2.2.1+1)),()),())else aQ ((x.1.1,x.1.2.1,()),())
def auU:KY 22 (aR f295):=⟨0,lB 0 Xx [(1,gC),(2,ae4)] zZ,lp [X3]⟩
def tT(D:aa Int)(E:Int):ah (Bool):=bE zZ ((D,E,0,()),()) (λL=>some L.1.1) λC=>some ((C.1.1.length:Int)==C.1.2.1)
def ET:=bT zP bS (br tT) 22 [] [auU] func295
abbrev agH:=((af×Int×af)×(((aa bK)×(aa Int)×(aa Int)×af)×af))
def JV(x:agH):ah (agH⊕(((Bool×af)×(af))⊕(((af×af)×(((aa bK)×(aa Int)×(aa Int)×af)×af))⊕Empty))):=bif x.1.2.1<(x.2.1.1.length:Int)then xI x.2.1.1 x.1.2.1 λC=>(tT C.symbols 11).bind λD=>bif (!D)then av ((false,()),())else xG (((),(W6 (x.1.2.1+1)),()),(x.2.1,()))else aQ (((),()),(x.2.1,()))
def auV:KY 76 (aR f168):=⟨0,lB 0 ⟨[(3,.aJ 3 0),(5,tI)],IB,[]⟩ [(1,gC),(2,afi)] JV,lp [ET]⟩
abbrev agI:=((af×Int×af)×(((aa bK)×(aa Int)×(aa Int)×af)×af))
def JW(x:agI):ah (agI⊕(((Bool×af)×(af))⊕(((af)×(af))⊕Empty))):=bif x.1.2.1<(x.2.1.2.1.length:Int)then xI x.2.1.2.1 x.1.2.1 λC=>(cG C 0 100000).bind λD=>bif (!D)then av ((false,()),())else xI x.2.1.2.2.1 x.1.2.1 λE=>(cG E 0 100000).bind λL=>bif (!L)then av ((false,()),())else xG (((),(W6 (x.1.2.1+1)),()),(x.2.1,()))else aQ ((),())
def auW:KY 76 (aR f168):=⟨2,lB 2 ⟨[(3,.aJ 3 0),(6,tI)],IB,[]⟩ [(1,gC),(4,fq)] JW,lp [eO]⟩
def Qv(D:aU)(C:cZ):ah (Bool):=(xS D).bind λE=>bif (!E)then some false else (tS D).bind λL=>bif ((C.cells.length:Int) != L)then some false else (qd D).bind λO=>bif ((C.bz.length:Int) != (W6 (O*D.rows)))then some false else bif ((C.bu.length:Int) != (C.bz.length:Int))then some false else bE JV (((),0,()),((C.cells,C.bz,C.bu,()),())) (λT=>some T.1.1) λU=>bE JW (((),0,()),(U.2.1,())) (λY=>some Y.1.1) λZ=>some true
def auX:=bT [(true,.fe),(true,.Array)] bS (br Qv) 76 [Qu,oX,EN] [auV,auW] func168
abbrev agJ:=(((aa Int)×Int×Int×af)×(af))
def JX(x:agJ):ah (agJ⊕(((Bool×af)×(af))⊕(((af)×(af))⊕Empty))):=bif x.1.2.2.1<(x.1.1.length:Int)then xI x.1.1 x.1.2.2.1 λC=>bif (C==x.1.2.1)then av ((true,()),())else xG ((x.1.1,x.1.2.1,(W6 (x.1.2.2.1+1)),()),())else aQ ((),())
def auY:KY 18 (aR f296):=⟨0,lB 0 Xx [(1,gC),(2,fq)] JX,lp []⟩
def Qx(C:aa Int)(D:Int):ah (Bool):=bE JX ((C,D,0,()),()) (λE=>some E.1.1) λL=>some false
def auZ:=bT zP bS (br Qx) 18 [] [auY] func296
abbrev agK:=((af×af×Int×Int×af)×((Int×Int×Int×Int×af)×(Int×(aa Int)×af)×af))
def JY(x:agK):ah (agK⊕(((Bool×af)×(af))⊕(((af)×(af))⊕Empty))):=letI E:=x.2.2.1.2.1;letI D:=x.1.2.2;letI C:=D.2.1;letI O:=xG (((),(),D.1,(W6 (C+1)),()),(x.2.1,x.2.2.1,()));letI L:=W6 ((W6 (C.tdiv D.1))*D.1);bif C<(E.length:Int)then xI E C λT=>if D.1=0 then none else bif (T==(C.tmod D.1))then O else xI E C λU=>(cG U D.1 (W6 (x.2.1.2.2.1-1))).bind λY=>bif (!Y)then av ((false,()),())else if D.1=0 then none else if 0 <= L/\L <= C/\C <= (E.length:Int)then xI E C λZ=>(Qx ((E.take C.toNat).drop L.toNat) Z).bind λgR=>bif gR then av ((false,()),())else O else none else aQ ((),())
def au0:KY 77 (aR f169):=⟨0,lB 0 Xv [(1,gC),(2,fq)] JY,lp [eO,auZ]⟩
def JZ(C:aU)(D:eZ):ah (Bool):=letI E:=W6 (C.rows-D.cr);(JM C D.cr).bind λL=>bif (!L.2)then some false else (qd C).bind λO=>bif ((D.map.length:Int) != (W6 (O*E)))then some false else bE JY (((),(),E,0,()),((C.cF,C.aB,C.rows,C.aT,()),(D.cr,D.map,()),())) (λT=>some T.1.1) λU=>some true
def agL:=bT OY bS (br JZ) 77 [oX,agv] [au0] func169
abbrev agM:=((af×Int×af)×(((aa Int)×Int×Bool×af)×af))
def J0(x:agM):ah (agM⊕(((Bool×af)×(af))⊕(((af×af)×(((aa Int)×Int×Bool×af)×af))⊕Empty))):=bif x.1.2.1<(x.2.1.1.length:Int)then xI x.2.1.1 x.1.2.1 λC=>(cG C (-2) 5).bind λD=>bif (!D)then av ((false,()),())else xG (((),(W6 (x.1.2.1+1)),()),(x.2.1,()))else aQ (((),()),(x.2.1,()))
def au1:KY 27 (aR f170):=⟨0,lB 0 ⟨[(1,.aJ 1 0),(3,tI)],[(1,.aC Ce)],[]⟩ [(1,n8),(2,afa)] J0,lp [eO]⟩
def Cy(C:de):ah (Bool):=bE J0 (((),0,()),((C.aH,C.wait,C.dS,()),())) (λE=>some E.1.1) λD=>(cG (D.2.1.1.length:Int) 1 8).bind λL=>bif L then (cG D.2.1.2.1 1 10000).bind λO=>some O else some false
def Qy:=bT Ch bS (bF Cy) 27 [eO] [au1] func170
def Cz(C:aU)(D:aI):ah (Bool):=(qd C).bind λE=>(cG D.ay 0 (W6 (E-1))).bind λL=>bif L then (cG D.row 0 (W6 (C.rows-1))).bind λO=>bif O then (cG D.bR 0 (W6 (C.aT-1))).bind λT=>some T else some false else some false
def X4:=aM OZ bS (br Cz) 27 [eO,oX] func262
abbrev agN:=((af×Int×Int×af)×(((aa Int)×(aa Int)×Int×af)×af))
def EU(x:agN):ah (agN⊕(((Bool×af)×(af))⊕(((af×Int×af)×(((aa Int)×(aa Int)×Int×af)×af))⊕Empty))):=letI C:=x.1.2;letI D:=xG (((),C.1,(W6 (C.2.1+1)),()),(x.2.1,()));bif C.2.1<C.1 then xI x.2.1.1 C.1 λE=>bif E >= 0 then xI x.2.1.1 C.2.1 λL=>xI x.2.1.1 C.1 λO=>bif (L==O)then av ((false,()),())else D else D else aQ (((),C.1,()),(x.2.1,()))
def agO:KY 90 (qS (aR f297) 0):=⟨2,lB 2 ⟨[(1,.aJ 1 0),(3,tI),(4,tI)],Xw,[]⟩ [(1,n8),(4,afb)] EU,lp []⟩
abbrev agP:=((af×Int×af)×(((aa Int)×(aa Int)×Int×af)×af))
def J1(x:agP):ah (agP⊕(((Bool×af)×(af))⊕(((af)×(af))⊕Empty))):=letI C:=x.2.1;letI D:=x.1.2.1;letI E:=av ((false,()),());letI L:=bE EU (((),D,0,()),(C,())) (λT=>av ((T.1.1,()),())) λO=>xG (((),(W6 (O.1.2.1+1)),()),(O.2.1,()));bif D<(C.1.length:Int)then xI C.1 D λU=>(cG U (-1) 15).bind λY=>bif (!Y)then E else xI C.2.1 D λZ=>(cG Z C.2.2.1 100000).bind λy8=>bif (!y8)then E else xI C.1 D λjU=>bif jU<0 then xI C.2.1 D λni=>bif (ni != 0)then E else L else L else aQ ((),())
def au2:KY 90 (aR f297):=⟨0,lB 0 afb [(1,n8),(2,fq)] J1,lq [eO] [agO,agO]⟩
def CA(C:bQ):ah (Bool):=(cG (C.rows.length:Int) 1 16).bind λD=>bif (!D)then some false else bif ((C.rows.length:Int) != (C.counts.length:Int))then some false else (cG C.cY 0 100000).bind λE=>bif (!E)then some false else bE J1 (((),0,()),((C.rows,C.counts,C.cY,()),())) (λL=>some L.1.1) λO=>some true
def agQ:=bT IG bS (bF CA) 90 [eO] [au2] func297
abbrev agR:=(((aa aI)×af×Int×af)×((Int×Int×Int×af)×af))
def J2(x:agR):ah (agR⊕(((Int×af)×(af))⊕(((af)×(af))⊕Empty))):=letI C:=x.1.2.2.1;bif C<(x.1.1.length:Int)then xI x.1.1 C λD=>bif ((D.ay==x.2.1.1)&&((D.row==x.2.1.2.1)&&((D.bR==x.2.1.2.2.1)&&true)))then av ((C,()),())else xG ((x.1.1,(),(W6 (C+1)),()),(x.2.1,()))else aQ ((),())
def au3:KY 19 (aR f298):=⟨0,lB 0 ⟨[(0,.lf (.aF .Addr 0)),(3,.aJ 3 0),(5,tI)],[(3,.aC OU)],[]⟩ [(1,kE),(2,fq)] J2,lp []⟩
def CB(D:aa aI)(C:aI):ah (Int):=bE J2 ((D,(),0,()),((C.ay,C.row,C.bR,()),())) (λE=>some E.1.1) λL=>some (-1)
def X5:=bT XC cq (br CB) 19 [] [au3] func298
abbrev agS:=((af×Int×Int×af)×(ax×af))
def Qz(x:agS):ah (agS⊕(((Bool×af)×(af))⊕(((af×af)×(ax×af))⊕Empty))):=letI C:=x.1.2.2.1;bif C<x.1.2.1 then xI x.2.1.bH C λD=>(CA D).bind λE=>bif (!E)then av ((false,()),())else xI x.2.1.guard C λL=>(cG L 3 1000).bind λO=>bif (!O)then av ((false,()),())else xG (((),x.1.2.1,(W6 (C+1)),()),(x.2.1,()))else aQ (((),()),(x.2.1,()))
def au4:KY 89 (aR f171):=⟨0,lB 0 ⟨[(1,.aJ 1 0),(3,tI),(4,tI)],[(1,.st .cN)],[]⟩ [(1,n8),(2,⟨[(1,.aJ 1 0)],[(1,.st .cN)],[]⟩)] Qz,lp [eO,agQ]⟩
abbrev agT:=((af×Int×af)×(ax×af))
def QA(x:agT):ah (agT⊕(((Bool×af)×(af))⊕(((af)×(af))⊕Empty))):=letI C:=av ((false,()),());bif x.1.2.1<(x.2.1.pending.length:Int)then xI x.2.1.pending x.1.2.1 λD=>(Cz x.2.1.config.aE D).bind λE=>bif (!E)then C else bif (D.bR != 0)then C else (CB x.2.1.pending D).bind λL=>bif (L != x.1.2.1)then C else xG (((),(W6 (x.1.2.1+1)),()),(x.2.1,()))else aQ ((),())
def au5:KY 89 (aR f171):=⟨2,lB 2 ⟨[(1,.aJ 1 0),(5,tI)],[(1,.st .cN)],[]⟩ [(1,n8),(4,fq)] QA,lp [X4,X5]⟩
def QB(C:ax):ah (Bool):=(qd C.config.aE).bind λD=>bif ((C.aP.aH.length:Int) != D)then some false else bif ((C.bH.length:Int) != D)then some false else bif ((C.guard.length:Int) != D)then some false else bif (C.pending.length:Int) > 128 then some false else bE Qz (((),D,0,()),(C,())) (λE=>some E.1.1) λL=>bE QA (((),0,()),(L.2.1,())) (λO=>some O.1.1) λT=>some true
def au6:=bT qa bS (bF QB) 89 [oX] [au4,au5] func171
def J3(C:Int):ah (Bool):=(cG C 0 4294967295).bind λD=>some D
def agU:=aM lM bS (bF J3) 5 [eO] func385
def QC(E:Int)(C:bA):ah (Bool):=letI D:=(cG C.at_ 0 1000000).bind λL=>some L;(cG C.id 1 100000).bind λO=>bif O then (cG C.dN 0 3).bind λT=>bif T then bif C.line >= 0 then bif C.line<E then (J3 C.data).bind λU=>bif U then bif C.write then D else bif (C.data==0)then D else some false else some false else some false else some false else some false else some false
def au7:=aM [(false,.int),(true,.dw)] bS (br QC) 43 [eO,agU] func299
def X6(C D:bA):ah (Bool):=bif C.at_<D.at_ then some true else bif (C.at_==D.at_)then some (C.id<D.id)else some false
def au8:=aM XI bS (br X6) 24 [] func300
abbrev agV:=(((aa bA)×Int×Int×af)×(af))
def J4(x:agV):ah (agV⊕(((Int×af)×(af))⊕(((af)×(af))⊕Empty))):=letI C:=x.1.2.2.1;bif C<(x.1.1.length:Int)then xI x.1.1 C λD=>bif (D.id==x.1.2.1)then av ((C,()),())else xG ((x.1.1,x.1.2.1,(W6 (C+1)),()),())else aQ ((),())
def au9:KY 20 (aR f301):=⟨0,lB 0 Xy [(1,kE),(2,fq)] J4,lp []⟩
def J5(C:aa bA)(D:Int):ah (Int):=bE J4 ((C,D,0,()),()) (λE=>some E.1.1) λL=>some (-1)
def agW:=bT EG cq (br J5) 20 [] [au9] func301
abbrev agX:=((Int×(aa bA)×Int×af)×(af))
def J6(x:agX):ah (agX⊕(((Bool×af)×(af))⊕(((af)×(af))⊕Empty))):=letI E:=av ((false,()),());letI D:=x.1.2.1;letI C:=x.1.2.2.1;letI L:=xI D C λO=>(J5 D O.id).bind λT=>bif (T != C)then E else xG ((x.1.1,D,(W6 (C+1)),()),());bif C<(D.length:Int)then xI D C λU=>(QC x.1.1 U).bind λY=>bif (!Y)then E else bif C > 0 then xI D (W6 (C-1)) λZ=>xI D C λe7=>(X6 Z e7).bind λy8=>bif (!y8)then E else L else L else aQ ((),())
def ava:KY 50 (aR f172):=⟨0,lB 0 ⟨[(0,tI),(1,.lf (.aF .dw 0)),(5,tI)],[],[]⟩ [(1,gC),(2,fq)] J6,lp [au7,au8,agW]⟩
def QD(D:Int)(C:aa bA):ah (Bool):=bif (C.length:Int) > 12 then some false else bE J6 ((D,C,0,()),()) (λE=>some E.1.1) λL=>some true
def avb:=bT [(false,.int),(false,(.sl .dw))] bS (br QD) 50 [] [ava] func172
def QE(C:aU)(D:eZ):ah (aU):=(JZ C D).bind λE=>bif (!E)then some (⟨0,0,0,0⟩:aU)else some (⟨C.cF,C.aB,(W6 (C.rows-D.cr)),C.aT⟩:aU)
def avc:=aM OY [(true,.fe,0)] (br QE) 17 [agL] func174
def vI(C:eC):ah (Bool):=(cG C.state 0 2).bind λD=>bif D then (cG C.since 0 1000000).bind λE=>bif E then (cG C.idle 0 1000000).bind λL=>some L else some false else some false
def QF:=aM [(true,.Power)] bS (bF vI) 16 [eO] func177
def EV(C:bU):ah (Bool):=letI D:=(cG C.times 1 999).bind λE=>some E;(cG C.line 0 1023).bind λL=>bif L then bif (C.code==1)then D else bif (C.code==2)then D else some false else some false
def agY:=aM [(true,.eo)] bS (bF EV) 21 [eO] func302
abbrev agZ:=(((aa bU)×Int×Int×Int×af)×(af))
def J7(x:agZ):ah (agZ⊕(((Int×af)×(af))⊕(((af)×(af))⊕Empty))):=letI C:=x.1.2.2.2.1;letI D:=xG ((x.1.1,x.1.2.1,x.1.2.2.1,(W6 (C+1)),()),());bif C<(x.1.1.length:Int)then xI x.1.1 C λE=>bif (E.line==x.1.2.1)then xI x.1.1 C λL=>bif (L.code==x.1.2.2.1)then av ((C,()),())else D else D else aQ ((),())
def avd:KY 31 (aR f303):=⟨0,lB 0 ⟨[(0,.lf (.aF .eo 0)),(1,tI),(2,tI),(7,tI)],[],[]⟩ [(1,IC),(2,fq)] J7,lp []⟩
def J8(C:aa bU)(D E:Int):ah (Int):=bE J7 ((C,D,E,0,()),()) (λL=>some L.1.1) λO=>some (-1)
def ag0:=bT Xz cq (fS J8) 31 [] [avd] func303
abbrev ag1:=(((aa bU)×Int×af)×(af))
def J9(x:ag1):ah (ag1⊕(((Bool×af)×(af))⊕(((af)×(af))⊕Empty))):=letI C:=x.1.2.1;bif C<(x.1.1.length:Int)then xI x.1.1 C λD=>(EV D).bind λE=>bif (!E)then av ((false,()),())else xI x.1.1 C λL=>xI x.1.1 C λO=>(J8 x.1.1 L.line O.code).bind λT=>bif (T != C)then av ((false,()),())else xG ((x.1.1,(W6 (C+1)),()),())else aQ ((),())
def ave:KY 35 (aR f178):=⟨0,lB 0 ⟨[(0,.lf (.aF .eo 0)),(3,tI)],[],[]⟩ [(1,n8),(2,fq)] J9,lp [agY,ag0]⟩
def Ka(C:aa bU):ah (Bool):=bif (C.length:Int) > 6 then some false else bE J9 ((C,0,()),()) (λD=>some D.1.1) λE=>some true
def ag2:=bT O1 bS (bF Ka) 35 [] [ave] func178
def QG(C:ax):ah (Bool):=(ES C.config C.box.bI).bind λD=>bif (!D)then some false else (ES C.config C.box.next).bind λE=>bif (!E)then some false else (cG C.now 0 1000000).bind λL=>bif (!L)then some false else (Qs C.config.aE C.bq).bind λO=>bif (!O)then some false else (JU C.config.aE C.ready).bind λT=>bif (!T)then some false else (Qv C.config.aE C.array).bind λU=>bif (!U)then some false else (JZ C.config.aE C.spare).bind λY=>bif (!Y)then some false else bif (C.spare.cr != C.config.cr)then some false else (Cy C.aP).bind λZ=>bif (!Z)then some false else (QB C).bind λy9=>bif (!y9)then some false else (QE C.config.aE C.spare).bind λgR=>(tS gR).bind λeM=>(QD eM C.queue).bind λgD=>bif (!gD)then some false else (ER C.shares).bind λgS=>bif (!gS)then some false else bif ((C.shares.length:Int) != 4)then some false else (Cv C.drain).bind λjz=>bif (!jz)then some false else (vI C.aZ).bind λiE=>bif (!iE)then some false else bif (C.aZ.state != C.bq.aZ)then some false else bif C.aZ.since > C.now then some false else (cG C.cK.every 1 100000).bind λkF=>bif kF then (cG C.cK.wait 1 C.cK.every).bind λgM=>bif gM then (tS C.config.aE).bind λjT=>(cG C.cK.next 0 (W6 (jT-1))).bind λtU=>bif tU then (Ka C.errors).bind λz0=>bif z0 then bif (C.trace.length:Int) <= 2000 then some ((C.cT.length:Int) <= 400)else some false else some false else some false else some false else some false
def avf:=aM qa bS (bF QG) 161 [eO,auO,auQ,agF,auX,agL,Qy,au6,avb,Qu,avc,X0,Qp,QF,ag2] func51
def Kb(C:gB)(D:Int):ah (gB):=letI E:=some (⟨false,C.low,C.high⟩:gB);(Cv C).bind λL=>bif (!L)then some C else bif D >= C.high then bif D <= C.low then E else some (⟨true,C.low,C.high⟩:gB)else bif D <= C.low then E else some C
def avg:=aM [(true,.kN),(false,.int)] [(true,.kN,0)] (br Kb) 20 [Qp] func181
abbrev ag3:=(((aa bA)×Bool×Int×Int×af)×(af))
def Kc(x:ag3):ah (ag3⊕(((Int×af)×(af))⊕Empty)):=letI C:=x.1.2.2;bif C.2.1<(x.1.1.length:Int)then xI x.1.1 C.2.1 λD=>bif (D.write==x.1.2.1)then xG ((x.1.1,x.1.2.1,(W6 (C.1+1)),(W6 (C.2.1+1)),()),())else xG ((x.1.1,x.1.2.1,C.1,(W6 (C.2.1+1)),()),())else av ((C.1,()),())
def avh:KY 23 (aR f182):=⟨0,lB 0 ⟨[(0,.lf (.aF .dw 0)),(1,tB),(5,tI),(6,tI)],[],[]⟩ [(2,vH)] Kc,lp []⟩
def Kd(C:aa bA)(D:Bool):ah (Int):=bk Kc ((C,D,0,0,()),()) λE=>some E.1.1
def avi:=bT [(false,(.sl .dw)),(false,.bool)] cq (br Kd) 23 [] [avh] func182
def Ke(C:eC)(E:Bool):ah (eC):=letI D:=W6 (C.idle+1);(vI C).bind λL=>bif (!L)then some C else bif E then some (⟨C.state,C.since,0⟩:eC)else some (⟨C.state,C.since,(if 1000000<D then 1000000 else D)⟩:eC)
def avj:=aM [(true,.Power),(false,.bool)] [(true,.Power,0)] (br Ke) 17 [QF] func183
abbrev ag4:=((af×af×Int×af)×(((aa Int)×Int×Bool×af)×(aa Int)×af))
def Kf(x:ag4):ah (ag4⊕(((af×af)×((aa Int)×af))⊕Empty)):=letI C:=x.2.1;letI E:=av (((),()),(x.2.2.1,()));letI D:=x.1.2.2.1;letI L:=((),(),(W6 (D+1)),());bif D<(C.1.length:Int)then (Cy (⟨C.1,C.2.1,C.2.2.1⟩:de)).bind λO=>bif O then xI C.1 D λT=>bif T >= 4 then bif bO (x.2.2.1.length+([D]:aa Int).length)then xG (L,(C,(x.2.2.1++([D]:aa Int)),()))else none else xG (L,(C,x.2.2.1,()))else E else E
def avk:KY 28 (aR f304):=⟨0,lB 0 ⟨afh,[(1,.aC Ce),(5,.sl .int 2)],[]⟩ [(2,XB)] Kf,lp [Qy]⟩
def Kg(C:de):ah ((aa Int)):=bk Kf (((),(),0,()),((C.aH,C.wait,C.dS,()),([]:aa Int),())) λD=>some D.2.1
def ag5:=bT Ch lK (bF Kg) 28 [] [avk] func304
def CC(C:ax):ah (Bool):=bif (C.queue.length:Int) > 0 then some true else bif (C.pending.length:Int) > 0 then some true else (Kg C.aP).bind λD=>some ((D.length:Int) > 0)
def X7:iK:=gQ [(false,.ld)] [(false,.bool,0)] (λx=>CC x.1)
def ag6:enters Tryz.prog 184/\ig Tryz.prog 184 X7:=kp 26 [ag5] func184
def Kh(C:gI)(E:Bool):ah (gI×Bool):=(Qi C).bind λD=>bif (!E)then some (D,false)else bif (!C.waits)then some (D,false)else (JG C.next).bind λL=>some ((⟨L,D.next,false⟩:gI),true)
def avl:=aM [(true,.jJ),(false,.bool)] [(true,.jJ,2),(false,.bool,0)] (br Kh) 23 [ago,agn] func185
def CD(C:kZ)(E:Int):ah (kZ×Int):=letI D:=some (C,(-1));(cG C.every 1 100000).bind λL=>bif (!L)then D else (cG C.wait 1 C.every).bind λO=>bif (!O)then D else bif E<1 then D else bif C.next<0 then D else bif C.next >= E then D else bif (W6 (C.wait-1)) > 0 then some ((⟨C.next,C.every,(W6 (C.wait-1))⟩:kZ),(-1))else if E=0 then none else some ((⟨((W6 (C.next+1)).tmod E),C.every,C.every⟩:kZ),C.next)
def avm:=aM [(true,.nM),(false,.int)] [(true,.nM,0),(false,.int,0)] (br CD) 55 [eO] func187
abbrev ag7:=((Int×Int×Int×Int×af)×(af))
def ag8(x:ag7):ah (ag7⊕(((Int×af)×(af))⊕Empty)):=letI C:=x.1.2;letI D:=C.2.2.1;letI E:=min (IntKind.u64.wrap D).toNat IntKind.i64.bits;bif D<4 then if (IntKind.u64.wrap D)<0 then none else bif ((bits .and .i64 (C.1.fdiv (2 ^ E)) 1)==1)then if (IntKind.u64.wrap D)<0 then none else xG ((x.1.1,C.1,(bits .xor .i64 C.2.1 (W6 (x.1.1*2 ^ E))),(W6 (D+1)),()),())else xG ((x.1.1,C.1,C.2.1,(W6 (D+1)),()),())else av ((C.2.1,()),())
def avn:KY 49 (aR f445):=⟨0,lB 0 Xu [(2,vH)] ag8,lp []⟩
abbrev ag9:=((Int×Int×af)×(af))
def aha(x:ag9):ah (ag9⊕(((Int×af)×(af))⊕Empty)):=letI C:=x.1.2.1;bif C >= 4 then if (IntKind.u64.wrap C)<0 then none else bif ((bits .and .i64 (x.1.1.fdiv (2 ^ (min (IntKind.u64.wrap C).toNat IntKind.i64.bits))) 1)==1)then if (IntKind.u64.wrap (W6 (C-4)))<0 then none else xG (((bits .xor .i64 x.1.1 (W6 ((19:Int)*2 ^ (min (IntKind.u64.wrap (W6 (C-4))).toNat IntKind.i64.bits)))),(W6 (C-1)),()),())else xG ((x.1.1,(W6 (C-1)),()),())else av ((x.1.1,()),())
def avo:KY 49 (aR f445):=⟨2,lB 2 ⟨[(5,tI),(7,tI)],[],[]⟩ [(4,vH)] aha,lp []⟩
def tV(C D:Int):ah (Int):=(Cx C).bind λE=>bif (!E)then some (-1)else (Cx D).bind λL=>bif (!L)then some (-1)else bk ag8 ((C,D,0,0,()),()) λO=>bk aha ((O.1.1,6,()),()) λT=>some T.1.1
def Ki:=bT EH cq (br tV) 49 [X3] [avn,avo] func445
abbrev ahb:=((Int×Int×Int×Int×af)×(af))
def ahc(x:ahb):ah (ahb⊕(((Int×af)×(af))⊕Empty)):=bif x.1.2.2.2.1<x.1.2.1 then (tV x.1.2.2.1 x.1.1).bind λC=>xG ((x.1.1,x.1.2.1,C,(W6 (x.1.2.2.2.1+1)),()),())else av ((x.1.2.2.1,()),())
def avp:KY 24 (aR f444):=⟨0,lB 0 Xu [(2,vH)] ahc,lp [Ki]⟩
def EW(C D:Int):ah (Int):=(Cx C).bind λE=>bif (!E)then some (-1)else (cG D 0 1000).bind λL=>bif (!L)then some (-1)else bk ahc ((C,D,1,0,()),()) λO=>some O.1.1
def X8:=bT EH cq (br EW) 24 [eO,X3] [avp] func444
abbrev ahd:=(((aa Int)×af×Int×Int×Int×Int×af)×((aa Int)×af))
def EX(x:ahd):ah (ahd⊕((((aa Int)×af×Int×af)×((aa Int)×af))⊕Empty)):=letI C:=x.1.2.2.2;letI D:=C.2.2.1;bif D<3 then xL x.2.1 D λE=>xI x.1.1 x.1.2.2.1 λL=>(tV L C.1).bind λO=>xL x.2.1 D λU=>(tV C.1 C.2.1).bind λT=>xG ((x.1.1,(),x.1.2.2.1,T,C.2.1,(W6 (D+1)),()),((x.2.1.set D.toNat (bits .xor .i64 E O)),()))else av ((x.1.1,(),x.1.2.2.1,()),(x.2.1,()))
def avq:KY 43 (qS (aR f442) 0):=⟨2,lB 2 ⟨[(0,.lf (.aF .int 0)),(3,.lf (.own 12)),(4,tI),(5,tI),(6,tI),(7,tI)],[(12,.sl .int 2)],[]⟩ [(4,aeK)] EX,lp [Ki]⟩
abbrev ahe:=(((aa Int)×af×Int×af)×((aa Int)×af))
def Kj(x:ahe):ah (ahe⊕(((af×af)×((aa Int)×af))⊕Empty)):=bif x.1.2.2.1<(x.1.1.length:Int)then (EW 2 x.1.2.2.1).bind λD=>bk EX ((x.1.1,(),x.1.2.2.1,1,D,0,()),(x.2.1,())) λC=>xG ((C.1.1,(),(W6 (C.1.2.2.1+1)),()),(C.2.1,()))else av (((),()),(x.2.1,()))
def avr:KY 43 (aR f442):=⟨0,lB 0 aeK [(2,⟨[(3,.lf (.own 12))],[(12,.sl .int 2)],[]⟩)] Kj,lq [X8] [avq]⟩
def QH(C:aa Int):ah ((aa Int)):=(tT C 11).bind λD=>bif (!D)then some ([]:aa Int)else if 0 <= (3:Int)/\(3:Int) <= 3/\(3:Int)<1073741824 then bk Kj ((C,(),0,()),((List.replicate (3:Int).toNat (0:Int)),())) λE=>some E.2.1 else none
def avs:=bT nh lK (bF QH) 43 [ET] [avr] func442
def EY(C:aa Int):ah (Bool):=xI C (0:Int) λD=>bif (D==0)then xI C (1:Int) λE=>bif (E==0)then xI C (2:Int) λL=>some (L==0)else some false else some false
def avt:=aM nh bS (bF EY) 19 [] func443
abbrev ahf:=((af×af×Int×af)×((aa Int)×(aa Int)×af))
def CE(x:ahf):ah (ahf⊕(((af×Int×Int×af)×((aa Int)×af))⊕(((af×af)×((aa Int)×af))⊕Empty))):=letI C:=x.2.2.1;letI D:=x.1.2.2.1;letI E:=xG (((),(),(W6 (D+1)),()),(x.2.1,C,()));bif D<11 then (EW 2 D).bind λL=>xL C (0:Int) λO=>bif (O != 0)then xL C (0:Int) λT=>xL C (1:Int) λU=>(tV T L).bind λY=>bif (Y==U)then xL C (1:Int) λZ=>xL C (2:Int) λCF=>(tV Z L).bind λEZ=>bif (EZ==CF)then xL x.2.1 D λX9=>xL C (0:Int) λvJ=>xL x.2.1 D λvL=>av (((),1,D,()),((x.2.1.set D.toNat (bits .xor .i64 X9 vJ)),()))else E else E else E else aQ (((),()),(x.2.1,()))
def avu:KY 67 (aR f386):=⟨0,lB 0 ⟨[(5,.lf (.own 13)),(6,.lf (.own 1000000000117000)),(7,tI)],[(13,.sl .int 2),(1000000000117000,.sl .int 2)],[]⟩ [(1,⟨[(2,.lf (.own 13)),(3,tI),(4,tI)],[(13,.sl .int 2)],[]⟩),(2,⟨[(5,.lf (.own 13))],[(13,.sl .int 2)],[]⟩)] CE,lp [X8,Ki]⟩
def QI(C:aa Int):ah ((aa Int)×Int×Int):=(tT C 11).bind λL=>bif (!L)then some (([]:aa Int),2,(-1))else bif xZ C then (QH C).bind λE=>(EY E).bind λO=>bif O then some ((xA C),0,(-1))else bE CE (((),(),0,()),((xA C),E,())) (λD=>some (D.2.1,D.1.2.1,D.1.2.2.1)) λT=>some (T.2.1,2,(-1))else none
def avv:=bT nh [(false,(.sl .int),2),(false,.int,0),(false,.int,0)] (bF QI) 67 [ET,avs,avt] [avu] func386
abbrev ahg:=(((aa Int)×Int×Int×af)×(af))
def Kk(x:ahg):ah (ahg⊕(((Int×af)×(af))⊕Empty)):=letI C:=x.1.2.2.1;bif C<(x.1.1.length:Int)then xI x.1.1 C λD=>if (IntKind.u64.wrap (W6 (4*C)))<0 then none else xG ((x.1.1,(bits .or .i64 x.1.2.1 (W6 (D*2 ^ (min (IntKind.u64.wrap (W6 (4*C))).toNat IntKind.i64.bits)))),(W6 (C+1)),()),())else av ((x.1.2.1,()),())
def avw:KY 26 (aR f387):=⟨0,lB 0 ⟨[(0,.lf (.aF .int 0)),(4,tI),(5,tI)],[],[]⟩ [(2,kE)] Kk,lp []⟩
def QJ(C:aa Int):ah (Int×Bool):=(tT C 8).bind λD=>bif (!D)then some (0,false)else bk Kk ((C,0,0,()),()) λE=>some (E.1.1,true)
def avx:=bT nh [(false,.int,0),(false,.bool,0)] (bF QJ) 26 [ET] [avw] func387
def QK(D:aa Int):ah ((aa Int)):=letI C:=(D.length:Int);letI E:=(D.take C.toNat).drop (3:Int).toNat;(tT D 11).bind λL=>bif (!L)then some ([]:aa Int)else if 0 <= (3:Int)/\3 <= C/\C <= C then bif xZ E then some (xA E)else none else none
def avy:=aM nh lK (bF QK) 11 [ET] func388
def QL(D:aa Int):ah (Int×Int×Int):=(QI D).bind λC=>bif (C.2.1==2)then some (0,C.2.1,C.2.2)else (QK C.1).bind λE=>(QJ E).bind λL=>some (L.1,C.2.1,C.2.2)
def avz:=aM nh [(false,.int,0),(false,.int,0),(false,.int,0)] (bF QL) 29 [avv,avx,avy] func305
abbrev ahh:=((af×af×Int×af×Int×af)×((aa Int)×(aa Int)×(aa Int)×af))
def ahi(x:ahh):ah (ahh⊕(((af×Int×af×af)×((aa Int)×(aa Int)×af))⊕Empty)):=letI C:=x.2.2;letI D:=x.1.2.2.2.2.1;letI E:=W6 (D+1);bif D<(C.1.length:Int)then xL C.2.1 E λO=>xL C.1 D λT=>letI L:=C.2.1.set E.toNat (bits .xor .i64 O T);xL C.2.1 E λYa=>xL L D λU=>xL C.1 D λY=>(EW 2 x.1.2.2.1).bind λZ=>(tV Y Z).bind λAa=>xL L D λe42=>xG (((),(),x.1.2.2.1,(),E,()),(x.2.1,C.1,(L.set D.toNat (bits .xor .i64 U Aa)),()))else av (((),x.1.2.2.1,(),()),(x.2.1,C.2.1,()))
def avA:KY 116 (qS (aR f389) 0):=⟨2,lB 2 ⟨[(3,.lf (.own 18)),(4,.lf (.own 99004)),(5,tI),(6,.lf (.own 29)),(7,tI)],[(18,.sl .int 2),(99004,.sl .int 2),(29,.sl .int 2)],[]⟩ [(4,⟨[(3,.lf (.own 18)),(5,tI),(6,.lf (.own 29))],[(18,.sl .int 2),(29,.sl .int 2)],[]⟩)] ahi,lp [X8,Ki]⟩
abbrev ahj:=((af×af×Int×af)×((aa Int)×(aa Int)×af))
def Yb(x:ahj):ah (ahj⊕(((af×af×af)×((aa Int)×(aa Int)×af))⊕Empty)):=letI C:=W6 ((x.2.2.1.length:Int)+1);bif x.1.2.2.1<3 then if 0 <= C/\C <= C/\C<1073741824 then bk ahi (((),(),x.1.2.2.1,(),0,()),(x.2.1,x.2.2.1,(List.replicate C.toNat (0:Int)),())) λD=>xG (((),(),(W6 (D.1.2.1+1)),()),(D.2.1,D.2.2.1,()))else none else av (((),(),()),(x.2.1,x.2.2.1,()))
def avB:KY 116 (aR f389):=⟨0,lB 0 ⟨[(3,.lf (.own 18)),(4,.lf (.own 99004)),(5,tI)],[(18,.sl .int 2),(99004,.sl .int 2)],[]⟩ [(2,⟨[(3,.lf (.own 18)),(4,.lf (.own 99004))],[(18,.sl .int 2),(99004,.sl .int 2)],[]⟩)] Yb,lq [] [avA]⟩
abbrev ahk:=((af×af×af×Int×Int×Int×af)×((aa Int)×(aa Int)×(aa Int)×af))
def E0(x:ahk):ah (ahk⊕(((af×af×af×Int×af)×((aa Int)×(aa Int)×(aa Int)×af))⊕Empty)):=letI C:=x.2.2;letI D:=x.1.2.2.2;letI E:=D.2.2.1;letI L:=W6 ((W6 (D.1-3))+E);bif E<(C.1.length:Int)then xL C.2.1 L λO=>xL C.1 E λT=>(tV T D.2.1).bind λU=>xL C.2.1 L λY=>xG (((),(),(),D.1,D.2.1,(W6 (E+1)),()),(x.2.1,C.1,(C.2.1.set L.toNat (bits .xor .i64 O U)),()))else av (((),(),(),D.1,()),(x.2.1,C.1,C.2.1,()))
def avC:KY 116 (qS (aR f389) 4):=⟨6,lB 6 ⟨[(3,.lf (.own 18)),(4,.lf (.own 99004)),(8,.lf (.own 66)),(9,tI),(10,tI),(11,tI)],aeA,[]⟩ [(8,aeB)] E0,lp [Ki]⟩
abbrev ahl:=((af×af×af×Int×af)×((aa Int)×(aa Int)×(aa Int)×af))
def E1(x:ahl):ah (ahl⊕(((af×af×af)×((aa Int)×(aa Int)×af))⊕Empty)):=letI D:=x.1.2.2.2.1;bif D >= 3 then xL x.2.2.2.1 D λE=>bk E0 (((),(),(),D,E,0,()),(x.2.1,x.2.2.1,x.2.2.2.1,())) λC=>xG (((),(),(),(W6 (C.1.2.2.2.1-1)),()),(C.2.1,C.2.2.1,C.2.2.2.1,()))else av (((),(),()),(x.2.1,x.2.2.2.1,()))
def avD:KY 116 (aR f389):=⟨4,lB 4 aeB [(6,⟨[(3,.lf (.own 18)),(8,.lf (.own 66))],[(18,.sl .int 2),(66,.sl .int 2)],[]⟩)] E1,lq [] [avC]⟩
abbrev ahm:=((af×af×Int×af)×((aa Int)×(aa Int)×af))
def Kl(x:ahm):ah (ahm⊕(((af×af)×((aa Int)×af))⊕Empty)):=letI C:=x.1.2.2.1;bif C<3 then xL x.2.2.1 C λD=>xL x.2.1 C λE=>xG (((),(),(W6 (C+1)),()),((x.2.1.set C.toNat D),x.2.2.1,()))else av (((),()),(x.2.1,()))
def avE:KY 116 (aR f389):=⟨8,lB 8 ⟨[(3,.lf (.own 18)),(8,.lf (.own 66)),(13,tI)],[(18,.sl .int 2),(66,.sl .int 2)],[]⟩ [(10,⟨[(3,.lf (.own 18))],[(18,.sl .int 2)],[]⟩)] Kl,lp []⟩
def Ab(E:aa Int):ah ((aa Int)):=letI C:=(3:Int);(tT E 8).bind λO=>bif (!O)then some ([]:aa Int)else if 0 <= C/\C <= 3/\C<1073741824 then bif bO ((List.replicate C.toNat (0:Int)).length+E.length)then bk Yb (((),(),1,()),(((List.replicate C.toNat (0:Int))++E),([1,1]:aa Int),())) λD=>bif xZ D.2.1 then bk E1 (((),(),(),(W6 (((xA D.2.1).length:Int)-1)),()),(D.2.1,D.2.2.1,(xA D.2.1),())) λL=>bk Kl (((),(),0,()),(L.2.1,L.2.2.1,())) λT=>some T.2.1 else none else none else none
def avF:=bT nh lK (bF Ab) 116 [ET] [avB,avD,avE] func389
abbrev ahn:=((Int×af×Int×af)×((aa Int)×af))
def Km(x:ahn):ah (ahn⊕(((af×af)×((aa Int)×af))⊕Empty)):=letI C:=x.1.2.2.1;letI D:=av (((),()),(x.2.1,()));letI E:=([(bits .and .i64 (x.1.1.fdiv (2 ^ (min (IntKind.u64.wrap (W6 (4*C))).toNat IntKind.i64.bits))) 15)]:aa Int);bif C<8 then (J3 x.1.1).bind λL=>bif L then if (IntKind.u64.wrap (W6 (4*C)))<0 then none else bif bO (x.2.1.length+E.length)then xG ((x.1.1,(),(W6 (C+1)),()),((x.2.1++E),()))else none else D else D
def avG:KY 24 (aR f390):=⟨0,lB 0 ⟨[(0,tI),(3,.lf (.own 5)),(4,tI)],[(5,.sl .int 2)],[]⟩ [(2,XB)] Km,lp [agU]⟩
def QM(C:Int):ah ((aa Int)):=bk Km ((C,(),0,()),(([]:aa Int),())) λD=>some D.2.1
def avH:=bT lM lK (bF QM) 24 [] [avG] func390
end Go.Proofs.YtnilicojgkhpnaaGreat
