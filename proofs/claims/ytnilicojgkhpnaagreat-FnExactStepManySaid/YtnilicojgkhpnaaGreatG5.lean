/-
  Functions of the program as plain functions of contents, and that the code computes them. Nothing here is a claim.
-/
import Derived.Test.YtnilicojgkhpnaaGreatVZ
import Derived.Test.YtnilicojgkhpnaaGreatRows
import Derived.Test.YtnilicojgkhpnaaGreatG1
import Derived.Test.YtnilicojgkhpnaaGreatG2
import Derived.Test.YtnilicojgkhpnaaGreatG3
import Derived.Test.YtnilicojgkhpnaaGreatG4
namespace Go.Proofs.YtnilicojgkhpnaaGreat
set_option linter.defProp false
open Go.RowKit Go.Proofs.Tryz
set_option linter.unusedVariables false
set_option maxRecDepth 100000
def CA(C:Int):ah (Bool):=(cG C 0 15).bind λD=>some D
def X3:=aM lM bS (bF CA) 5 [eN] func263
abbrev agK:=(((aa Int)×Int×Int×af)×(af))
def z0(x:agK):ah (agK⊕(((Bool×af)×(af))⊕((((aa Int)×Int×af)×(af))⊕Empty))):=bif x.1.2.2.1<(x.1.1.length:Int)then xI x.1.1 x.1.2.2.1 λC=>(CA C).bind λD=>bif (!D)then av ((false,()),())else xG ((x.1.1,x.1.2.1,(W6 (x.1.2.2.1+1)),()),())else aQ ((x.1.1,x.1.2.1,()),())
def auY:KY 22 (aS f295):=⟨0,lB 0 Xz [(1,gC),(2,ae6)] z0,lp [X3]⟩
def tR(D:aa Int)(E:Int):ah (Bool):=bE z0 ((D,E,0,()),()) (λL=>some L.1.1) λC=>some ((C.1.1.length:Int)==C.1.2.1)
def EV:=bT zR bS (br tR) 22 [] [auY] func295
abbrev agL:=((af×Int×af)×(((aa bK)×(aa Int)×(aa Int)×af)×af))
def JY(x:agL):ah (agL⊕(((Bool×af)×(af))⊕(((af×af)×(((aa bK)×(aa Int)×(aa Int)×af)×af))⊕Empty))):=bif x.1.2.1<(x.2.1.1.length:Int)then xI x.2.1.1 x.1.2.1 λC=>(tR C.symbols 11).bind λD=>bif (!D)then av ((false,()),())else xG (((),(W6 (x.1.2.1+1)),()),(x.2.1,()))else aQ (((),()),(x.2.1,()))
def auZ:KY 76 (aS f168):=⟨0,lB 0 ⟨[(3,.aJ 3 0),(5,tI)],IE,[]⟩ [(1,gC),(2,afm)] JY,lp [EV]⟩
abbrev agM:=((af×Int×af)×(((aa bK)×(aa Int)×(aa Int)×af)×af))
def JZ(x:agM):ah (agM⊕(((Bool×af)×(af))⊕(((af)×(af))⊕Empty))):=bif x.1.2.1<(x.2.1.2.1.length:Int)then xI x.2.1.2.1 x.1.2.1 λC=>(cG C 0 100000).bind λD=>bif (!D)then av ((false,()),())else xI x.2.1.2.2.1 x.1.2.1 λE=>(cG E 0 100000).bind λL=>bif (!L)then av ((false,()),())else xG (((),(W6 (x.1.2.1+1)),()),(x.2.1,()))else aQ ((),())
def au0:KY 76 (aS f168):=⟨2,lB 2 ⟨[(3,.aJ 3 0),(6,tI)],IE,[]⟩ [(1,gC),(4,fq)] JZ,lp [eN]⟩
def Qx(D:aV)(C:cZ):ah (Bool):=(xS D).bind λE=>bif (!E)then some false else (tQ D).bind λL=>bif ((C.cells.length:Int) != L)then some false else (qb D).bind λO=>bif ((C.bz.length:Int) != (W6 (O*D.rows)))then some false else bif ((C.bu.length:Int) != (C.bz.length:Int))then some false else bE JY (((),0,()),((C.cells,C.bz,C.bu,()),())) (λT=>some T.1.1) λU=>bE JZ (((),0,()),(U.2.1,())) (λY=>some Y.1.1) λZ=>some true
def au1:=bT [(true,.fe),(true,.Array)] bS (br Qx) 76 [Qv,oW,EP] [auZ,au0] func168
abbrev agN:=(((aa Int)×Int×Int×af)×(af))
def J0(x:agN):ah (agN⊕(((Bool×af)×(af))⊕(((af)×(af))⊕Empty))):=bif x.1.2.2.1<(x.1.1.length:Int)then xI x.1.1 x.1.2.2.1 λC=>bif (C==x.1.2.1)then av ((true,()),())else xG ((x.1.1,x.1.2.1,(W6 (x.1.2.2.1+1)),()),())else aQ ((),())
def au2:KY 18 (aS f296):=⟨0,lB 0 Xz [(1,gC),(2,fq)] J0,lp []⟩
def Qy(C:aa Int)(D:Int):ah (Bool):=bE J0 ((C,D,0,()),()) (λE=>some E.1.1) λL=>some false
def au3:=bT zR bS (br Qy) 18 [] [au2] func296
abbrev agO:=((af×af×Int×Int×af)×((Int×Int×Int×Int×af)×(Int×(aa Int)×af)×af))
def J1(x:agO):ah (agO⊕(((Bool×af)×(af))⊕(((af)×(af))⊕Empty))):=letI E:=x.2.2.1.2.1;letI D:=x.1.2.2;letI C:=D.2.1;letI O:=xG (((),(),D.1,(W6 (C+1)),()),(x.2.1,x.2.2.1,()));letI L:=W6 ((W6 (C.tdiv D.1))*D.1);bif C<(E.length:Int)then xI E C λT=>if D.1=0 then none else bif (T==(C.tmod D.1))then O else xI E C λU=>(cG U D.1 (W6 (x.2.1.2.2.1-1))).bind λY=>bif (!Y)then av ((false,()),())else if D.1=0 then none else if 0 <= L/\L <= C/\C <= (E.length:Int)then xI E C λZ=>(Qy ((E.take C.toNat).drop L.toNat) Z).bind λgS=>bif gS then av ((false,()),())else O else none else aQ ((),())
def au4:KY 77 (aS f169):=⟨0,lB 0 Xx [(1,gC),(2,fq)] J1,lp [eN,au3]⟩
def J2(C:aV)(D:eZ):ah (Bool):=letI E:=W6 (C.rows-D.cr);(JP C D.cr).bind λL=>bif (!L.2)then some false else (qb C).bind λO=>bif ((D.map.length:Int) != (W6 (O*E)))then some false else bE J1 (((),(),E,0,()),((C.cH,C.aB,C.rows,C.aT,()),(D.cr,D.map,()),())) (λT=>some T.1.1) λU=>some true
def agP:=bT OZ bS (br J2) 77 [oW,agz] [au4] func169
abbrev agQ:=((af×Int×af)×(((aa Int)×Int×Bool×af)×af))
def J3(x:agQ):ah (agQ⊕(((Bool×af)×(af))⊕(((af×af)×(((aa Int)×Int×Bool×af)×af))⊕Empty))):=bif x.1.2.1<(x.2.1.1.length:Int)then xI x.2.1.1 x.1.2.1 λC=>(cG C (-2) 5).bind λD=>bif (!D)then av ((false,()),())else xG (((),(W6 (x.1.2.1+1)),()),(x.2.1,()))else aQ (((),()),(x.2.1,()))
def au5:KY 27 (aS f170):=⟨0,lB 0 ⟨[(1,.aJ 1 0),(3,tI)],[(1,.aC Ch)],[]⟩ [(1,n7),(2,afd)] J3,lp [eN]⟩
def CB(C:de):ah (Bool):=bE J3 (((),0,()),((C.aH,C.wait,C.dS,()),())) (λE=>some E.1.1) λD=>(cG (D.2.1.1.length:Int) 1 8).bind λL=>bif L then (cG D.2.1.2.1 1 10000).bind λO=>some O else some false
def Qz:=bT Cl bS (bF CB) 27 [eN] [au5] func170
def CC(C:aV)(D:aI):ah (Bool):=(qb C).bind λE=>(cG D.ay 0 (W6 (E-1))).bind λL=>bif L then (cG D.row 0 (W6 (C.rows-1))).bind λO=>bif O then (cG D.bR 0 (W6 (C.aT-1))).bind λT=>some T else some false else some false
def X4:=aM O0 bS (br CC) 27 [eN,oW] func262
abbrev agR:=((af×Int×Int×af)×(((aa Int)×(aa Int)×Int×af)×af))
def EW(x:agR):ah (agR⊕(((Bool×af)×(af))⊕(((af×Int×af)×(((aa Int)×(aa Int)×Int×af)×af))⊕Empty))):=letI C:=x.1.2;letI D:=xG (((),C.1,(W6 (C.2.1+1)),()),(x.2.1,()));bif C.2.1<C.1 then xI x.2.1.1 C.1 λE=>bif E >= 0 then xI x.2.1.1 C.2.1 λL=>xI x.2.1.1 C.1 λO=>bif (L==O)then av ((false,()),())else D else D else aQ (((),C.1,()),(x.2.1,()))
def agS:KY 90 (qQ (aS f297) 0):=⟨2,lB 2 ⟨[(1,.aJ 1 0),(3,tI),(4,tI)],Xy,[]⟩ [(1,n7),(4,afe)] EW,lp []⟩
abbrev agT:=((af×Int×af)×(((aa Int)×(aa Int)×Int×af)×af))
def J4(x:agT):ah (agT⊕(((Bool×af)×(af))⊕(((af)×(af))⊕Empty))):=letI C:=x.2.1;letI D:=x.1.2.1;letI E:=av ((false,()),());letI L:=bE EW (((),D,0,()),(C,())) (λT=>av ((T.1.1,()),())) λO=>xG (((),(W6 (O.1.2.1+1)),()),(O.2.1,()));bif D<(C.1.length:Int)then xI C.1 D λU=>(cG U (-1) 15).bind λY=>bif (!Y)then E else xI C.2.1 D λZ=>(cG Z C.2.2.1 100000).bind λy8=>bif (!y8)then E else xI C.1 D λjU=>bif jU<0 then xI C.2.1 D λni=>bif (ni != 0)then E else L else L else aQ ((),())
def au6:KY 90 (aS f297):=⟨0,lB 0 afe [(1,n7),(2,fq)] J4,lq [eN] [agS,agS]⟩
def CD(C:bQ):ah (Bool):=(cG (C.rows.length:Int) 1 16).bind λD=>bif (!D)then some false else bif ((C.rows.length:Int) != (C.counts.length:Int))then some false else (cG C.cY 0 100000).bind λE=>bif (!E)then some false else bE J4 (((),0,()),((C.rows,C.counts,C.cY,()),())) (λL=>some L.1.1) λO=>some true
def agU:=bT IK bS (bF CD) 90 [eN] [au6] func297
abbrev agV:=(((aa aI)×af×Int×af)×((Int×Int×Int×af)×af))
def J5(x:agV):ah (agV⊕(((Int×af)×(af))⊕(((af)×(af))⊕Empty))):=letI C:=x.1.2.2.1;bif C<(x.1.1.length:Int)then xI x.1.1 C λD=>bif ((D.ay==x.2.1.1)&&((D.row==x.2.1.2.1)&&((D.bR==x.2.1.2.2.1)&&true)))then av ((C,()),())else xG ((x.1.1,(),(W6 (C+1)),()),(x.2.1,()))else aQ ((),())
def au7:KY 19 (aS f298):=⟨0,lB 0 ⟨[(0,.lf (.aF .Addr 0)),(3,.aJ 3 0),(5,tI)],[(3,.aC OW)],[]⟩ [(1,kE),(2,fq)] J5,lp []⟩
def CE(D:aa aI)(C:aI):ah (Int):=bE J5 ((D,(),0,()),((C.ay,C.row,C.bR,()),())) (λE=>some E.1.1) λL=>some (-1)
def X5:=bT XE cq (br CE) 19 [] [au7] func298
abbrev agW:=((af×Int×Int×af)×(ax×af))
def QA(x:agW):ah (agW⊕(((Bool×af)×(af))⊕(((af×af)×(ax×af))⊕Empty))):=letI C:=x.1.2.2.1;bif C<x.1.2.1 then xI x.2.1.bH C λD=>(CD D).bind λE=>bif (!E)then av ((false,()),())else xI x.2.1.guard C λL=>(cG L 3 1000).bind λO=>bif (!O)then av ((false,()),())else xG (((),x.1.2.1,(W6 (C+1)),()),(x.2.1,()))else aQ (((),()),(x.2.1,()))
def au8:KY 89 (aS f171):=⟨0,lB 0 ⟨[(1,.aJ 1 0),(3,tI),(4,tI)],[(1,.st .cN)],[]⟩ [(1,n7),(2,⟨[(1,.aJ 1 0)],[(1,.st .cN)],[]⟩)] QA,lp [eN,agU]⟩
abbrev agX:=((af×Int×af)×(ax×af))
def QB(x:agX):ah (agX⊕(((Bool×af)×(af))⊕(((af)×(af))⊕Empty))):=letI C:=av ((false,()),());bif x.1.2.1<(x.2.1.pending.length:Int)then xI x.2.1.pending x.1.2.1 λD=>(CC x.2.1.config.aE D).bind λE=>bif (!E)then C else bif (D.bR != 0)then C else (CE x.2.1.pending D).bind λL=>bif (L != x.1.2.1)then C else xG (((),(W6 (x.1.2.1+1)),()),(x.2.1,()))else aQ ((),())
def au9:KY 89 (aS f171):=⟨2,lB 2 ⟨[(1,.aJ 1 0),(5,tI)],[(1,.st .cN)],[]⟩ [(1,n7),(4,fq)] QB,lp [X4,X5]⟩
def QC(C:ax):ah (Bool):=(qb C.config.aE).bind λD=>bif ((C.aP.aH.length:Int) != D)then some false else bif ((C.bH.length:Int) != D)then some false else bif ((C.guard.length:Int) != D)then some false else bif (C.pending.length:Int) > 128 then some false else bE QA (((),D,0,()),(C,())) (λE=>some E.1.1) λL=>bE QB (((),0,()),(L.2.1,())) (λO=>some O.1.1) λT=>some true
def ava:=bT sv bS (bF QC) 89 [oW] [au8,au9] func171
def J6(C:Int):ah (Bool):=(cG C 0 4294967295).bind λD=>some D
def agY:=aM lM bS (bF J6) 5 [eN] func385
def QD(E:Int)(C:bA):ah (Bool):=letI D:=(cG C.at_ 0 1000000).bind λL=>some L;(cG C.id 1 100000).bind λO=>bif O then (cG C.dN 0 3).bind λT=>bif T then bif C.line >= 0 then bif C.line<E then (J6 C.data).bind λU=>bif U then bif C.write then D else bif (C.data==0)then D else some false else some false else some false else some false else some false else some false
def avb:=aM [(false,.int),(true,.dw)] bS (br QD) 43 [eN,agY] func299
def X6(C D:bA):ah (Bool):=bif C.at_<D.at_ then some true else bif (C.at_==D.at_)then some (C.id<D.id)else some false
def avc:=aM XH bS (br X6) 24 [] func300
abbrev agZ:=(((aa bA)×Int×Int×af)×(af))
def J7(x:agZ):ah (agZ⊕(((Int×af)×(af))⊕(((af)×(af))⊕Empty))):=letI C:=x.1.2.2.1;bif C<(x.1.1.length:Int)then xI x.1.1 C λD=>bif (D.id==x.1.2.1)then av ((C,()),())else xG ((x.1.1,x.1.2.1,(W6 (C+1)),()),())else aQ ((),())
def avd:KY 20 (aS f301):=⟨0,lB 0 XA [(1,kE),(2,fq)] J7,lp []⟩
def J8(C:aa bA)(D:Int):ah (Int):=bE J7 ((C,D,0,()),()) (λE=>some E.1.1) λL=>some (-1)
def ag0:=bT EI cq (br J8) 20 [] [avd] func301
abbrev ag1:=((Int×(aa bA)×Int×af)×(af))
def J9(x:ag1):ah (ag1⊕(((Bool×af)×(af))⊕(((af)×(af))⊕Empty))):=letI E:=av ((false,()),());letI D:=x.1.2.1;letI C:=x.1.2.2.1;letI L:=xI D C λO=>(J8 D O.id).bind λT=>bif (T != C)then E else xG ((x.1.1,D,(W6 (C+1)),()),());bif C<(D.length:Int)then xI D C λU=>(QD x.1.1 U).bind λY=>bif (!Y)then E else bif C > 0 then xI D (W6 (C-1)) λZ=>xI D C λe7=>(X6 Z e7).bind λy8=>bif (!y8)then E else L else L else aQ ((),())
def ave:KY 50 (aS f172):=⟨0,lB 0 ⟨[(0,tI),(1,.lf (.aF .dw 0)),(5,tI)],[],[]⟩ [(1,gC),(2,fq)] J9,lp [avb,avc,ag0]⟩
def QE(D:Int)(C:aa bA):ah (Bool):=bif (C.length:Int) > 12 then some false else bE J9 ((D,C,0,()),()) (λE=>some E.1.1) λL=>some true
def avf:=bT [(false,.int),(false,(.sl .dw))] bS (br QE) 50 [] [ave] func172
def QF(C:aV)(D:eZ):ah (aV):=(J2 C D).bind λE=>bif (!E)then some (⟨0,0,0,0⟩:aV)else some (⟨C.cH,C.aB,(W6 (C.rows-D.cr)),C.aT⟩:aV)
def avg:=aM OZ [(true,.fe,0)] (br QF) 17 [agP] func174
def vH(C:eE):ah (Bool):=(cG C.state 0 2).bind λD=>bif D then (cG C.since 0 1000000).bind λE=>bif E then (cG C.idle 0 1000000).bind λL=>some L else some false else some false
def QG:=aM [(true,.Power)] bS (bF vH) 16 [eN] func177
def EX(C:bU):ah (Bool):=letI D:=(cG C.times 1 999).bind λE=>some E;(cG C.line 0 1023).bind λL=>bif L then bif (C.code==1)then D else bif (C.code==2)then D else some false else some false
def ag2:=aM [(true,.eo)] bS (bF EX) 21 [eN] func302
abbrev ag3:=(((aa bU)×Int×Int×Int×af)×(af))
def Ka(x:ag3):ah (ag3⊕(((Int×af)×(af))⊕(((af)×(af))⊕Empty))):=letI C:=x.1.2.2.2.1;letI D:=xG ((x.1.1,x.1.2.1,x.1.2.2.1,(W6 (C+1)),()),());bif C<(x.1.1.length:Int)then xI x.1.1 C λE=>bif (E.line==x.1.2.1)then xI x.1.1 C λL=>bif (L.code==x.1.2.2.1)then av ((C,()),())else D else D else aQ ((),())
def avh:KY 31 (aS f303):=⟨0,lB 0 ⟨[(0,.lf (.aF .eo 0)),(1,tI),(2,tI),(7,tI)],[],[]⟩ [(1,IF),(2,fq)] Ka,lp []⟩
def Kb(C:aa bU)(D E:Int):ah (Int):=bE Ka ((C,D,E,0,()),()) (λL=>some L.1.1) λO=>some (-1)
def ag4:=bT XB cq (fS Kb) 31 [] [avh] func303
abbrev ag5:=(((aa bU)×Int×af)×(af))
def Kc(x:ag5):ah (ag5⊕(((Bool×af)×(af))⊕(((af)×(af))⊕Empty))):=letI C:=x.1.2.1;bif C<(x.1.1.length:Int)then xI x.1.1 C λD=>(EX D).bind λE=>bif (!E)then av ((false,()),())else xI x.1.1 C λL=>xI x.1.1 C λO=>(Kb x.1.1 L.line O.code).bind λT=>bif (T != C)then av ((false,()),())else xG ((x.1.1,(W6 (C+1)),()),())else aQ ((),())
def avi:KY 35 (aS f178):=⟨0,lB 0 ⟨[(0,.lf (.aF .eo 0)),(3,tI)],[],[]⟩ [(1,n7),(2,fq)] Kc,lp [ag2,ag4]⟩
def Kd(C:aa bU):ah (Bool):=bif (C.length:Int) > 6 then some false else bE Kc ((C,0,()),()) (λD=>some D.1.1) λE=>some true
def ag6:=bT O2 bS (bF Kd) 35 [] [avi] func178
def QH(C:ax):ah (Bool):=(EU C.config C.box.bI).bind λD=>bif (!D)then some false else (EU C.config C.box.next).bind λE=>bif (!E)then some false else (cG C.now 0 1000000).bind λL=>bif (!L)then some false else (Qt C.config.aE C.bq).bind λO=>bif (!O)then some false else (JX C.config.aE C.ready).bind λT=>bif (!T)then some false else (Qx C.config.aE C.array).bind λU=>bif (!U)then some false else (J2 C.config.aE C.spare).bind λY=>bif (!Y)then some false else bif (C.spare.cr != C.config.cr)then some false else (CB C.aP).bind λZ=>bif (!Z)then some false else (QC C).bind λy9=>bif (!y9)then some false else (QF C.config.aE C.spare).bind λgS=>(tQ gS).bind λeM=>(QE eM C.queue).bind λgD=>bif (!gD)then some false else (ET C.shares).bind λgT=>bif (!gT)then some false else bif ((C.shares.length:Int) != 4)then some false else (Cy C.drain).bind λjz=>bif (!jz)then some false else (vH C.aZ).bind λiE=>bif (!iE)then some false else bif (C.aZ.state != C.bq.aZ)then some false else bif C.aZ.since > C.now then some false else (cG C.cK.every 1 100000).bind λkF=>bif kF then (cG C.cK.wait 1 C.cK.every).bind λgN=>bif gN then (tQ C.config.aE).bind λjT=>(cG C.cK.next 0 (W6 (jT-1))).bind λtS=>bif tS then (Kd C.errors).bind λAa=>bif Aa then bif (C.trace.length:Int) <= 2000 then some ((C.cS.length:Int) <= 400)else some false else some false else some false else some false else some false
def avj:=aM sv bS (bF QH) 161 [eN,auS,auU,agJ,au1,agP,Qz,ava,avf,Qv,avg,X0,Qq,QG,ag6] func51
def Ke(C:gB)(D:Int):ah (gB):=letI E:=some (⟨false,C.low,C.high⟩:gB);(Cy C).bind λL=>bif (!L)then some C else bif D >= C.high then bif D <= C.low then E else some (⟨true,C.low,C.high⟩:gB)else bif D <= C.low then E else some C
def avk:=aM [(true,.kN),(false,.int)] [(true,.kN,0)] (br Ke) 20 [Qq] func181
abbrev ag7:=(((aa bA)×Bool×Int×Int×af)×(af))
def Kf(x:ag7):ah (ag7⊕(((Int×af)×(af))⊕Empty)):=letI C:=x.1.2.2;bif C.2.1<(x.1.1.length:Int)then xI x.1.1 C.2.1 λD=>bif (D.write==x.1.2.1)then xG ((x.1.1,x.1.2.1,(W6 (C.1+1)),(W6 (C.2.1+1)),()),())else xG ((x.1.1,x.1.2.1,C.1,(W6 (C.2.1+1)),()),())else av ((C.1,()),())
def avl:KY 23 (aS f182):=⟨0,lB 0 ⟨[(0,.lf (.aF .dw 0)),(1,tB),(5,tI),(6,tI)],[],[]⟩ [(2,vG)] Kf,lp []⟩
def Kg(C:aa bA)(D:Bool):ah (Int):=bh Kf ((C,D,0,0,()),()) λE=>some E.1.1
def avm:=bT [(false,(.sl .dw)),(false,.bool)] cq (br Kg) 23 [] [avl] func182
def Kh(C:eE)(E:Bool):ah (eE):=letI D:=W6 (C.idle+1);(vH C).bind λL=>bif (!L)then some C else bif E then some (⟨C.state,C.since,0⟩:eE)else some (⟨C.state,C.since,(if 1000000<D then 1000000 else D)⟩:eE)
def avn:=aM [(true,.Power),(false,.bool)] [(true,.Power,0)] (br Kh) 17 [QG] func183
abbrev ag8:=((af×af×Int×af)×(((aa Int)×Int×Bool×af)×(aa Int)×af))
def Ki(x:ag8):ah (ag8⊕(((af×af)×((aa Int)×af))⊕Empty)):=letI C:=x.2.1;letI E:=av (((),()),(x.2.2.1,()));letI D:=x.1.2.2.1;letI L:=((),(),(W6 (D+1)),());bif D<(C.1.length:Int)then (CB (⟨C.1,C.2.1,C.2.2.1⟩:de)).bind λO=>bif O then xI C.1 D λT=>bif T >= 4 then bif bP (x.2.2.1.length+([D]:aa Int).length)then xG (L,(C,(x.2.2.1++([D]:aa Int)),()))else none else xG (L,(C,x.2.2.1,()))else E else E
def avo:KY 28 (aS f304):=⟨0,lB 0 ⟨afl,[(1,.aC Ch),(5,.sl .int 2)],[]⟩ [(2,XD)] Ki,lp [Qz]⟩
def Kj(C:de):ah ((aa Int)):=bh Ki (((),(),0,()),((C.aH,C.wait,C.dS,()),([]:aa Int),())) λD=>some D.2.1
def ag9:=bT Cl lK (bF Kj) 28 [] [avo] func304
def CF(C:ax):ah (Bool):=bif (C.queue.length:Int) > 0 then some true else bif (C.pending.length:Int) > 0 then some true else (Kj C.aP).bind λD=>some ((D.length:Int) > 0)
def X7:iK:=gR [(false,.ld)] [(false,.bool,0)] (λx=>CF x.1)
def aha:enters Tryz.prog 184/\ij Tryz.prog 184 X7:=kp 26 [ag9] func184
def Kk(C:gJ)(E:Bool):ah (gJ×Bool):=(Qj C).bind λD=>bif (!E)then some (D,false)else bif (!C.waits)then some (D,false)else (JJ C.next).bind λL=>some ((⟨L,D.next,false⟩:gJ),true)
def avp:=aM [(true,.jJ),(false,.bool)] [(true,.jJ,2),(false,.bool,0)] (br Kk) 23 [ags,agr] func185
def CG(C:kZ)(E:Int):ah (kZ×Int):=letI D:=some (C,(-1));(cG C.every 1 100000).bind λL=>bif (!L)then D else (cG C.wait 1 C.every).bind λO=>bif (!O)then D else bif E<1 then D else bif C.next<0 then D else bif C.next >= E then D else bif (W6 (C.wait-1)) > 0 then some ((⟨C.next,C.every,(W6 (C.wait-1))⟩:kZ),(-1))else if E=0 then none else some ((⟨((W6 (C.next+1)).tmod E),C.every,C.every⟩:kZ),C.next)
def avq:=aM [(true,.nL),(false,.int)] [(true,.nL,0),(false,.int,0)] (br CG) 55 [eN] func187
abbrev ahb:=((Int×Int×Int×Int×af)×(af))
def ahc(x:ahb):ah (ahb⊕(((Int×af)×(af))⊕Empty)):=letI C:=x.1.2;letI D:=C.2.2.1;letI E:=min (IntKind.u64.wrap D).toNat IntKind.i64.bits;bif D<4 then if (IntKind.u64.wrap D)<0 then none else bif ((bits .and .i64 (C.1.fdiv (2 ^ E)) 1)==1)then if (IntKind.u64.wrap D)<0 then none else xG ((x.1.1,C.1,(bits .xor .i64 C.2.1 (W6 (x.1.1*2 ^ E))),(W6 (D+1)),()),())else xG ((x.1.1,C.1,C.2.1,(W6 (D+1)),()),())else av ((C.2.1,()),())
def avr:KY 49 (aS f445):=⟨0,lB 0 Xw [(2,vG)] ahc,lp []⟩
abbrev ahd:=((Int×Int×af)×(af))
def ahe(x:ahd):ah (ahd⊕(((Int×af)×(af))⊕Empty)):=letI C:=x.1.2.1;bif C >= 4 then if (IntKind.u64.wrap C)<0 then none else bif ((bits .and .i64 (x.1.1.fdiv (2 ^ (min (IntKind.u64.wrap C).toNat IntKind.i64.bits))) 1)==1)then if (IntKind.u64.wrap (W6 (C-4)))<0 then none else xG (((bits .xor .i64 x.1.1 (W6 ((19:Int)*2 ^ (min (IntKind.u64.wrap (W6 (C-4))).toNat IntKind.i64.bits)))),(W6 (C-1)),()),())else xG ((x.1.1,(W6 (C-1)),()),())else av ((x.1.1,()),())
def avs:KY 49 (aS f445):=⟨2,lB 2 ⟨[(5,tI),(7,tI)],[],[]⟩ [(4,vG)] ahe,lp []⟩
def tT(C D:Int):ah (Int):=(CA C).bind λE=>bif (!E)then some (-1)else (CA D).bind λL=>bif (!L)then some (-1)else bh ahc ((C,D,0,0,()),()) λO=>bh ahe ((O.1.1,6,()),()) λT=>some T.1.1
def Kl:=bT EJ cq (br tT) 49 [X3] [avr,avs] func445
abbrev ahf:=((Int×Int×Int×Int×af)×(af))
def ahg(x:ahf):ah (ahf⊕(((Int×af)×(af))⊕Empty)):=bif x.1.2.2.2.1<x.1.2.1 then (tT x.1.2.2.1 x.1.1).bind λC=>xG ((x.1.1,x.1.2.1,C,(W6 (x.1.2.2.2.1+1)),()),())else av ((x.1.2.2.1,()),())
def avt:KY 24 (aS f444):=⟨0,lB 0 Xw [(2,vG)] ahg,lp [Kl]⟩
def EY(C D:Int):ah (Int):=(CA C).bind λE=>bif (!E)then some (-1)else (cG D 0 1000).bind λL=>bif (!L)then some (-1)else bh ahg ((C,D,1,0,()),()) λO=>some O.1.1
def X8:=bT EJ cq (br EY) 24 [eN,X3] [avt] func444
abbrev ahh:=(((aa Int)×af×Int×Int×Int×Int×af)×((aa Int)×af))
def EZ(x:ahh):ah (ahh⊕((((aa Int)×af×Int×af)×((aa Int)×af))⊕Empty)):=letI C:=x.1.2.2.2;letI D:=C.2.2.1;bif D<3 then xL x.2.1 D λE=>xI x.1.1 x.1.2.2.1 λL=>(tT L C.1).bind λO=>xL x.2.1 D λU=>(tT C.1 C.2.1).bind λT=>xG ((x.1.1,(),x.1.2.2.1,T,C.2.1,(W6 (D+1)),()),((x.2.1.set D.toNat (bits .xor .i64 E O)),()))else av ((x.1.1,(),x.1.2.2.1,()),(x.2.1,()))
def avu:KY 43 (qQ (aS f442) 0):=⟨2,lB 2 ⟨[(0,.lf (.aF .int 0)),(3,.lf (.own 12)),(4,tI),(5,tI),(6,tI),(7,tI)],[(12,.sl .int 2)],[]⟩ [(4,aeM)] EZ,lp [Kl]⟩
abbrev ahi:=(((aa Int)×af×Int×af)×((aa Int)×af))
def Km(x:ahi):ah (ahi⊕(((af×af)×((aa Int)×af))⊕Empty)):=bif x.1.2.2.1<(x.1.1.length:Int)then (EY 2 x.1.2.2.1).bind λD=>bh EZ ((x.1.1,(),x.1.2.2.1,1,D,0,()),(x.2.1,())) λC=>xG ((C.1.1,(),(W6 (C.1.2.2.1+1)),()),(C.2.1,()))else av (((),()),(x.2.1,()))
def avv:KY 43 (aS f442):=⟨0,lB 0 aeM [(2,⟨[(3,.lf (.own 12))],[(12,.sl .int 2)],[]⟩)] Km,lq [X8] [avu]⟩
def QI(C:aa Int):ah ((aa Int)):=(tR C 11).bind λD=>bif (!D)then some ([]:aa Int)else if 0 <= (3:Int)/\(3:Int) <= 3/\(3:Int)<1073741824 then bh Km ((C,(),0,()),((List.replicate (3:Int).toNat (0:Int)),())) λE=>some E.2.1 else none
def avw:=bT nh lK (bF QI) 43 [EV] [avv] func442
def E0(C:aa Int):ah (Bool):=xI C (0:Int) λD=>bif (D==0)then xI C (1:Int) λE=>bif (E==0)then xI C (2:Int) λL=>some (L==0)else some false else some false
def avx:=aM nh bS (bF E0) 19 [] func443
abbrev ahj:=((af×af×Int×af)×((aa Int)×(aa Int)×af))
def CH(x:ahj):ah (ahj⊕(((af×Int×Int×af)×((aa Int)×af))⊕(((af×af)×((aa Int)×af))⊕Empty))):=letI C:=x.2.2.1;letI D:=x.1.2.2.1;letI E:=xG (((),(),(W6 (D+1)),()),(x.2.1,C,()));bif D<11 then (EY 2 D).bind λL=>xL C (0:Int) λO=>bif (O != 0)then xL C (0:Int) λT=>xL C (1:Int) λU=>(tT T L).bind λY=>bif (Y==U)then xL C (1:Int) λZ=>xL C (2:Int) λCI=>(tT Z L).bind λE1=>bif (E1==CI)then xL x.2.1 D λX9=>xL C (0:Int) λvI=>xL x.2.1 D λvJ=>av (((),1,D,()),((x.2.1.set D.toNat (bits .xor .i64 X9 vI)),()))else E else E else E else aQ (((),()),(x.2.1,()))
def avy:KY 67 (aS f386):=⟨0,lB 0 ⟨[(5,.lf (.own 13)),(6,.lf (.own 1000000000117000)),(7,tI)],[(13,.sl .int 2),(1000000000117000,.sl .int 2)],[]⟩ [(1,⟨[(2,.lf (.own 13)),(3,tI),(4,tI)],[(13,.sl .int 2)],[]⟩),(2,⟨[(5,.lf (.own 13))],[(13,.sl .int 2)],[]⟩)] CH,lp [X8,Kl]⟩
def QJ(C:aa Int):ah ((aa Int)×Int×Int):=(tR C 11).bind λL=>bif (!L)then some (([]:aa Int),2,(-1))else bif xZ C then (QI C).bind λE=>(E0 E).bind λO=>bif O then some ((xA C),0,(-1))else bE CH (((),(),0,()),((xA C),E,())) (λD=>some (D.2.1,D.1.2.1,D.1.2.2.1)) λT=>some (T.2.1,2,(-1))else none
def avz:=bT nh [(false,(.sl .int),2),(false,.int,0),(false,.int,0)] (bF QJ) 67 [EV,avw,avx] [avy] func386
abbrev ahk:=(((aa Int)×Int×Int×af)×(af))
def Kn(x:ahk):ah (ahk⊕(((Int×af)×(af))⊕Empty)):=letI C:=x.1.2.2.1;bif C<(x.1.1.length:Int)then xI x.1.1 C λD=>if (IntKind.u64.wrap (W6 (4*C)))<0 then none else xG ((x.1.1,(bits .or .i64 x.1.2.1 (W6 (D*2 ^ (min (IntKind.u64.wrap (W6 (4*C))).toNat IntKind.i64.bits)))),(W6 (C+1)),()),())else av ((x.1.2.1,()),())
def avA:KY 26 (aS f387):=⟨0,lB 0 ⟨[(0,.lf (.aF .int 0)),(4,tI),(5,tI)],[],[]⟩ [(2,kE)] Kn,lp []⟩
def QK(C:aa Int):ah (Int×Bool):=(tR C 8).bind λD=>bif (!D)then some (0,false)else bh Kn ((C,0,0,()),()) λE=>some (E.1.1,true)
def avB:=bT nh [(false,.int,0),(false,.bool,0)] (bF QK) 26 [EV] [avA] func387
def QL(D:aa Int):ah ((aa Int)):=letI C:=(D.length:Int);letI E:=(D.take C.toNat).drop (3:Int).toNat;(tR D 11).bind λL=>bif (!L)then some ([]:aa Int)else if 0 <= (3:Int)/\3 <= C/\C <= C then bif xZ E then some (xA E)else none else none
def avC:=aM nh lK (bF QL) 11 [EV] func388
def QM(D:aa Int):ah (Int×Int×Int):=(QJ D).bind λC=>bif (C.2.1==2)then some (0,C.2.1,C.2.2)else (QL C.1).bind λE=>(QK E).bind λL=>some (L.1,C.2.1,C.2.2)
def avD:=aM nh [(false,.int,0),(false,.int,0),(false,.int,0)] (bF QM) 29 [avz,avB,avC] func305
abbrev ahl:=((af×af×Int×af×Int×af)×((aa Int)×(aa Int)×(aa Int)×af))
def ahm(x:ahl):ah (ahl⊕(((af×Int×af×af)×((aa Int)×(aa Int)×af))⊕Empty)):=letI C:=x.2.2;letI D:=x.1.2.2.2.2.1;letI E:=W6 (D+1);bif D<(C.1.length:Int)then xL C.2.1 E λO=>xL C.1 D λT=>letI L:=C.2.1.set E.toNat (bits .xor .i64 O T);xL C.2.1 E λYa=>xL L D λU=>xL C.1 D λY=>(EY 2 x.1.2.2.1).bind λZ=>(tT Y Z).bind λAb=>xL L D λe42=>xG (((),(),x.1.2.2.1,(),E,()),(x.2.1,C.1,(L.set D.toNat (bits .xor .i64 U Ab)),()))else av (((),x.1.2.2.1,(),()),(x.2.1,C.2.1,()))
def avE:KY 116 (qQ (aS f389) 0):=⟨2,lB 2 ⟨[(3,.lf (.own 18)),(4,.lf (.own 99004)),(5,tI),(6,.lf (.own 29)),(7,tI)],[(18,.sl .int 2),(99004,.sl .int 2),(29,.sl .int 2)],[]⟩ [(4,⟨[(3,.lf (.own 18)),(5,tI),(6,.lf (.own 29))],[(18,.sl .int 2),(29,.sl .int 2)],[]⟩)] ahm,lp [X8,Kl]⟩
abbrev ahn:=((af×af×Int×af)×((aa Int)×(aa Int)×af))
def Yb(x:ahn):ah (ahn⊕(((af×af×af)×((aa Int)×(aa Int)×af))⊕Empty)):=letI C:=W6 ((x.2.2.1.length:Int)+1);bif x.1.2.2.1<3 then if 0 <= C/\C <= C/\C<1073741824 then bh ahm (((),(),x.1.2.2.1,(),0,()),(x.2.1,x.2.2.1,(List.replicate C.toNat (0:Int)),())) λD=>xG (((),(),(W6 (D.1.2.1+1)),()),(D.2.1,D.2.2.1,()))else none else av (((),(),()),(x.2.1,x.2.2.1,()))
def avF:KY 116 (aS f389):=⟨0,lB 0 ⟨[(3,.lf (.own 18)),(4,.lf (.own 99004)),(5,tI)],[(18,.sl .int 2),(99004,.sl .int 2)],[]⟩ [(2,⟨[(3,.lf (.own 18)),(4,.lf (.own 99004))],[(18,.sl .int 2),(99004,.sl .int 2)],[]⟩)] Yb,lq [] [avE]⟩
abbrev aho:=((af×af×af×Int×Int×Int×af)×((aa Int)×(aa Int)×(aa Int)×af))
def E2(x:aho):ah (aho⊕(((af×af×af×Int×af)×((aa Int)×(aa Int)×(aa Int)×af))⊕Empty)):=letI C:=x.2.2;letI D:=x.1.2.2.2;letI E:=D.2.2.1;letI L:=W6 ((W6 (D.1-3))+E);bif E<(C.1.length:Int)then xL C.2.1 L λO=>xL C.1 E λT=>(tT T D.2.1).bind λU=>xL C.2.1 L λY=>xG (((),(),(),D.1,D.2.1,(W6 (E+1)),()),(x.2.1,C.1,(C.2.1.set L.toNat (bits .xor .i64 O U)),()))else av (((),(),(),D.1,()),(x.2.1,C.1,C.2.1,()))
def avG:KY 116 (qQ (aS f389) 4):=⟨6,lB 6 ⟨[(3,.lf (.own 18)),(4,.lf (.own 99004)),(8,.lf (.own 66)),(9,tI),(10,tI),(11,tI)],aeC,[]⟩ [(8,aeD)] E2,lp [Kl]⟩
abbrev ahp:=((af×af×af×Int×af)×((aa Int)×(aa Int)×(aa Int)×af))
def E3(x:ahp):ah (ahp⊕(((af×af×af)×((aa Int)×(aa Int)×af))⊕Empty)):=letI D:=x.1.2.2.2.1;bif D >= 3 then xL x.2.2.2.1 D λE=>bh E2 (((),(),(),D,E,0,()),(x.2.1,x.2.2.1,x.2.2.2.1,())) λC=>xG (((),(),(),(W6 (C.1.2.2.2.1-1)),()),(C.2.1,C.2.2.1,C.2.2.2.1,()))else av (((),(),()),(x.2.1,x.2.2.2.1,()))
def avH:KY 116 (aS f389):=⟨4,lB 4 aeD [(6,⟨[(3,.lf (.own 18)),(8,.lf (.own 66))],[(18,.sl .int 2),(66,.sl .int 2)],[]⟩)] E3,lq [] [avG]⟩
abbrev ahq:=((af×af×Int×af)×((aa Int)×(aa Int)×af))
def Ko(x:ahq):ah (ahq⊕(((af×af)×((aa Int)×af))⊕Empty)):=letI C:=x.1.2.2.1;bif C<3 then xL x.2.2.1 C λD=>xL x.2.1 C λE=>xG (((),(),(W6 (C+1)),()),((x.2.1.set C.toNat D),x.2.2.1,()))else av (((),()),(x.2.1,()))
def avI:KY 116 (aS f389):=⟨8,lB 8 ⟨[(3,.lf (.own 18)),(8,.lf (.own 66)),(13,tI)],[(18,.sl .int 2),(66,.sl .int 2)],[]⟩ [(10,⟨[(3,.lf (.own 18))],[(18,.sl .int 2)],[]⟩)] Ko,lp []⟩
def Ac(E:aa Int):ah ((aa Int)):=letI C:=(3:Int);(tR E 8).bind λO=>bif (!O)then some ([]:aa Int)else if 0 <= C/\C <= 3/\C<1073741824 then bif bP ((List.replicate C.toNat (0:Int)).length+E.length)then bh Yb (((),(),1,()),(((List.replicate C.toNat (0:Int))++E),([1,1]:aa Int),())) λD=>bif xZ D.2.1 then bh E3 (((),(),(),(W6 (((xA D.2.1).length:Int)-1)),()),(D.2.1,D.2.2.1,(xA D.2.1),())) λL=>bh Ko (((),(),0,()),(L.2.1,L.2.2.1,())) λT=>some T.2.1 else none else none else none
def avJ:=bT nh lK (bF Ac) 116 [EV] [avF,avH,avI] func389
abbrev ahr:=((Int×af×Int×af)×((aa Int)×af))
def Kp(x:ahr):ah (ahr⊕(((af×af)×((aa Int)×af))⊕Empty)):=letI C:=x.1.2.2.1;letI D:=av (((),()),(x.2.1,()));letI E:=([(bits .and .i64 (x.1.1.fdiv (2 ^ (min (IntKind.u64.wrap (W6 (4*C))).toNat IntKind.i64.bits))) 15)]:aa Int);bif C<8 then (J6 x.1.1).bind λL=>bif L then if (IntKind.u64.wrap (W6 (4*C)))<0 then none else bif bP (x.2.1.length+E.length)then xG ((x.1.1,(),(W6 (C+1)),()),((x.2.1++E),()))else none else D else D
def avK:KY 24 (aS f390):=⟨0,lB 0 ⟨[(0,tI),(3,.lf (.own 5)),(4,tI)],[(5,.sl .int 2)],[]⟩ [(2,XD)] Kp,lp [agY]⟩
def QN(C:Int):ah ((aa Int)):=bh Kp ((C,(),0,()),(([]:aa Int),())) λD=>some D.2.1
def avL:=bT lM lK (bF QN) 24 [] [avK] func390
end Go.Proofs.YtnilicojgkhpnaaGreat
