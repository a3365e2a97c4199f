/-
  Functions of the program as plain functions of contents, and that the code computes them. Nothing here is a claim.
-/
import Derived.Test.YtnilicojgkhpnaaGreatVZ
import Derived.Test.YtnilicojgkhpnaaGreatRows
import Derived.Test.YtnilicojgkhpnaaGreatG1
namespace Go.Proofs.YtnilicojgkhpnaaGreat
open Go.RowKit Go.Proofs.Tryz
set_option linter.unusedVariables false
set_option maxRecDepth 100000
def IQ(C:aI):ah (aI):=some C
def ast:=aM [(true,.Addr)] [(true,.Addr,0)] (bF IQ) 14 [] func144
abbrev afv:=(((aa aI)×af×Int×af)×((aa aI)×af))
def afw(x:afv):ah (afv⊕(((af×af)×((aa aI)×af))⊕Empty)):=letI C:=x.1.2.2.1;bif C<(x.1.1.length:Int)then xI x.1.1 C λD=>(IQ D).bind λE=>xL x.2.1 C λL=>xG ((x.1.1,(),(W6 (C+1)),()),((x.2.1.set C.toNat E),()))else av (((),()),(x.2.1,()))
def asu:KY 23 (aR f61):=⟨0,lB 0 ⟨[(0,.lf (.aF .Addr 0)),(3,.lf (.own 7)),(4,tI)],[(7,.sl .Addr 2)],[]⟩ [(2,⟨tQ,[(7,.sl .Addr 2)],[]⟩)] afw,lp [ast]⟩
def Py(D:aa aI):ah ((aa aI)):=letI C:=(D.length:Int);if 0 <= C/\C <= C/\C<1073741824 then bk afw ((D,(),0,()),((List.replicate C.toNat (⟨0,0,0⟩:aI)),())) λE=>some E.2.1 else none
def asv:=bT [(false,(.sl .Addr))] [(false,(.sl .Addr),2)] (bF Py) 23 [] [asu] func61
def IS(C:bA):ah (bA):=some C
def asw:=aM [(true,.dw)] [(true,.dw,0)] (bF IS) 23 [] func143
abbrev afx:=(((aa bA)×af×Int×af)×((aa bA)×af))
def afy(x:afx):ah (afx⊕(((af×af)×((aa bA)×af))⊕Empty)):=letI C:=x.1.2.2.1;bif C<(x.1.1.length:Int)then xI x.1.1 C λD=>(IS D).bind λE=>xL x.2.1 C λL=>xG ((x.1.1,(),(W6 (C+1)),()),((x.2.1.set C.toNat E),()))else av (((),()),(x.2.1,()))
def asx:KY 23 (aR f62):=⟨0,lB 0 ⟨[(0,.lf (.aF .dw 0)),(3,.lf (.own 7)),(4,tI)],[(7,.sl .dw 2)],[]⟩ [(2,⟨tQ,[(7,.sl .dw 2)],[]⟩)] afy,lp [asw]⟩
def Pz(D:aa bA):ah ((aa bA)):=letI C:=(D.length:Int);if 0 <= C/\C <= C/\C<1073741824 then bk afy ((D,(),0,()),((List.replicate C.toNat (⟨0,0,0,false,0,0⟩:bA)),())) λE=>some E.2.1 else none
def asy:=bT [(false,(.sl .dw))] [(false,(.sl .dw),2)] (bF Pz) 23 [] [asx] func62
def IT(C:bV):ah (bV):=some C
def asz:=aM [(true,.ef)] [(true,.ef,0)] (bF IT) 11 [] func196
abbrev afz:=(((aa bV)×af×Int×af)×((aa bV)×af))
def afA(x:afz):ah (afz⊕(((af×af)×((aa bV)×af))⊕Empty)):=letI C:=x.1.2.2.1;bif C<(x.1.1.length:Int)then xI x.1.1 C λD=>(IT D).bind λE=>xL x.2.1 C λL=>xG ((x.1.1,(),(W6 (C+1)),()),((x.2.1.set C.toNat E),()))else av (((),()),(x.2.1,()))
def asA:KY 23 (aR f63):=⟨0,lB 0 ⟨[(0,.lf (.aF .ef 0)),(3,.lf (.own 7)),(4,tI)],O2,[]⟩ [(2,⟨tQ,O2,[]⟩)] afA,lp [asz]⟩
def PB(D:aa bV):ah ((aa bV)):=letI C:=(D.length:Int);if 0 <= C/\C <= C/\C<1073741824 then bk afA ((D,(),0,()),((List.replicate C.toNat (⟨0,0⟩:bV)),())) λE=>some E.2.1 else none
def asC:=bT [(false,(.sl .ef))] [(false,(.sl .ef),2)] (bF PB) 23 [] [asA] func63
def PC(C:gB):ah (gB):=some C
def asD:=aM [(true,.kN)] [(true,.kN,0)] (bF PC) 14 [] func64
def PD(C:eC):ah (eC):=some C
def asE:=aM [(true,.Power)] [(true,.Power,0)] (bF PD) 14 [] func65
def PE(C:kZ):ah (kZ):=some C
def asF:=aM [(true,.nM)] [(true,.nM,0)] (bF PE) 14 [] func66
def IU(C:bU):ah (bU):=some C
def asG:=aM [(true,.eo)] [(true,.eo,0)] (bF IU) 14 [] func197
abbrev afB:=(((aa bU)×af×Int×af)×((aa bU)×af))
def afC(x:afB):ah (afB⊕(((af×af)×((aa bU)×af))⊕Empty)):=letI C:=x.1.2.2.1;bif C<(x.1.1.length:Int)then xI x.1.1 C λD=>(IU D).bind λE=>xL x.2.1 C λL=>xG ((x.1.1,(),(W6 (C+1)),()),((x.2.1.set C.toNat E),()))else av (((),()),(x.2.1,()))
def asH:KY 23 (aR f67):=⟨0,lB 0 ⟨[(0,.lf (.aF .eo 0)),(3,.lf (.own 7)),(4,tI)],[(7,.sl .eo 2)],[]⟩ [(2,⟨tQ,[(7,.sl .eo 2)],[]⟩)] afC,lp [asG]⟩
def PF(D:aa bU):ah ((aa bU)):=letI C:=(D.length:Int);if 0 <= C/\C <= C/\C<1073741824 then bk afC ((D,(),0,()),((List.replicate C.toNat (⟨0,0,0⟩:bU)),())) λE=>some E.2.1 else none
def asJ:=bT O1 [(false,(.sl .eo),2)] (bF PF) 23 [] [asH] func67
def PG(C:aG):ah (aG):=some C
def asK:=aM [(true,.Command)] EI (bF PG) 17 [] func326
def IV(C:cP):ah (cP):=(PG C.cmd).bind λD=>some (⟨C.at_,D⟩:cP)
def asM:=aM [(true,.Event)] [(true,.Event,0)] (bF IV) 12 [asK] func198
abbrev afD:=(((aa cP)×af×Int×af)×((aa cP)×af))
def afE(x:afD):ah (afD⊕(((af×af)×((aa cP)×af))⊕Empty)):=letI C:=x.1.2.2.1;bif C<(x.1.1.length:Int)then xI x.1.1 C λD=>(IV D).bind λE=>xL x.2.1 C λL=>xG ((x.1.1,(),(W6 (C+1)),()),((x.2.1.set C.toNat E),()))else av (((),()),(x.2.1,()))
def asN:KY 23 (aR f68):=⟨0,lB 0 ⟨[(0,.lf (.aF .Event 0)),(3,.lf (.own 7)),(4,tI)],[(7,.sl .Event 2)],[]⟩ [(2,⟨tQ,[(7,.sl .Event 2)],[]⟩)] afE,lp [asM]⟩
def PI(D:aa cP):ah ((aa cP)):=letI C:=(D.length:Int);if 0 <= C/\C <= C/\C<1073741824 then bk afE ((D,(),0,()),((List.replicate C.toNat (⟨0,⟨0,0,0,0⟩⟩:cP)),())) λE=>some E.2.1 else none
def asO:=bT [(false,(.sl .Event))] [(false,(.sl .Event),2)] (bF PI) 23 [] [asN] func68
def IW(C:cX):ah (cX):=some C
def asP:=aM [(true,.gd)] [(true,.gd,0)] (bF IW) 17 [] func199
abbrev afF:=(((aa cX)×af×Int×af)×((aa cX)×af))
def afG(x:afF):ah (afF⊕(((af×af)×((aa cX)×af))⊕Empty)):=letI C:=x.1.2.2.1;bif C<(x.1.1.length:Int)then xI x.1.1 C λD=>(IW D).bind λE=>xL x.2.1 C λL=>xG ((x.1.1,(),(W6 (C+1)),()),((x.2.1.set C.toNat E),()))else av (((),()),(x.2.1,()))
def asQ:KY 23 (aR f69):=⟨0,lB 0 ⟨[(0,.lf (.aF .gd 0)),(3,.lf (.own 7)),(4,tI)],[(7,.sl .gd 2)],[]⟩ [(2,⟨tQ,[(7,.sl .gd 2)],[]⟩)] afG,lp [asP]⟩
def PJ(D:aa cX):ah ((aa cX)):=letI C:=(D.length:Int);if 0 <= C/\C <= C/\C<1073741824 then bk afG ((D,(),0,()),((List.replicate C.toNat (⟨0,0,0,0⟩:cX)),())) λE=>some E.2.1 else none
def asR:=bT [(false,(.sl .gd))] [(false,(.sl .gd),2)] (bF PJ) 23 [] [asQ] func69
def Ci(C:ax):ah (ax):=(Ph C.config).bind λD=>(Pm C.box).bind λE=>(Po C.bq).bind λL=>(Pp C.ready).bind λO=>(Pu C.array).bind λT=>(Pv C.spare).bind λU=>(Pw C.aP).bind λY=>(Px C.bH).bind λZ=>(qb C.guard).bind λy9=>(Py C.pending).bind λgR=>(Pz C.queue).bind λeM=>(PB C.shares).bind λgD=>(PC C.drain).bind λgS=>(PD C.aZ).bind λjz=>(PE C.cK).bind λiE=>(PF C.errors).bind λkF=>(PI C.trace).bind λgM=>(PJ C.cT).bind λjT=>some (⟨D,E,C.now,L,O,T,U,Y,Z,y9,gR,eM,gD,gS,jz,iE,kF,gM,jT⟩:ax)
def asT:=aM qa [(true,.cN,4)] (bF Ci) 80 [ar9,asd,ash,asi,asn,aso,asp,ass,zU,asv,asy,asC,asD,asE,asF,asJ,asO,asR] func10
def PL(C D:aU):ah (Bool):=bif (C.cF != D.cF)then some false else bif (C.aB != D.aB)then some false else bif (C.rows != D.rows)then some false else bif (C.aT != D.aT)then some false else some true
def asU:=aM [(true,.fe),(true,.fe)] bS (br PL) 25 [] func236
def PN(C D:c9):ah (Bool):=bif (C.jF != D.jF)then some false else bif (C.rp != D.rp)then some false else bif (C.gH != D.gH)then some false else bif (C.mI != D.mI)then some false else bif (C.jG != D.jG)then some false else bif (C.jH != D.jH)then some false else bif (C.mJ != D.mJ)then some false else bif (C.mK != D.mK)then some false else bif (C.ji != D.ji)then some false else bif (C.wr != D.wr)then some false else bif (C.mL != D.mL)then some false else bif (C.mM != D.mM)then some false else bif (C.pH != D.pH)then some false else bif (C.mN != D.mN)then some false else bif (C.nJ != D.nJ)then some false else bif (C.xp != D.xp)then some false else bif (C.xs != D.xs)then some false else some true
def asW:=aM [(true,.jI),(true,.jI)] bS (br PN) 90 [] func237
def PO(C D:jE):ah (Bool):=bif (C.order != D.order)then some false else bif (!(C.hash==D.hash))then some false else some true
def asX:=aM [(true,.nK),(true,.nK)] bS (br PO) 15 [] func238
def PR(C D:iY):ah (Bool):=bif (C.bz != D.bz)then some false else bif (C.bu != D.bu)then some false else some true
def asY:=aM [(true,.mO),(true,.mO)] bS (br PR) 15 [] func239
def PS(C D:ia):ah (Bool):=(PL C.aE D.aE).bind λE=>bif (!E)then some false else (PN C.ck D.ck).bind λL=>bif (!L)then some false else (PO C.mapping D.mapping).bind λO=>bif (!O)then some false else bif (C.cr != D.cr)then some false else bif (C.interval != D.interval)then some false else bif (C.iz != D.iz)then some false else (PR C.dO D.dO).bind λT=>bif (!T)then some false else some true
def asZ:=aM [(true,.Config),(true,.Config)] bS (br PS) 44 [asU,asW,asX,asY] func86
abbrev afH:=(((aa Int)×(aa Int)×Int×af)×(af))
def afI(x:afH):ah (afH⊕(((Bool×af)×(af))⊕(((af)×(af))⊕Empty))):=letI C:=x.1.2.2.1;bif C<(x.1.1.length:Int)then xI x.1.1 C λD=>xI x.1.2.1 C λE=>bif (D != E)then av ((false,()),())else xG ((x.1.1,x.1.2.1,(W6 (C+1)),()),())else aQ ((),())
def as0:KY 26 (aR f94):=⟨0,lB 0 ⟨[(0,.lf (.aF .int 0)),(1,.lf (.aF .int 0)),(5,tI)],[],[]⟩ [(1,gC),(2,fq)] afI,lp []⟩
def qc(C D:aa Int):ah (Bool):=bif ((C.length:Int) != (D.length:Int))then some false else bE afI ((C,D,0,()),()) (λE=>some E.1.1) λL=>some true
def zV:=bT [(false,(.sl .int)),(false,(.sl .int))] bS (br qc) 26 [] [as0] func94
def PT(C D:kL):ah (Bool):=bif (C.down != D.down)then some false else bif (C.sleep != D.sleep)then some false else some true
def as1:=aM [(true,.nL),(true,.nL)] bS (br PT) 15 [] func142
def IX(C D:fz):ah (Bool):=bif (C.eN != D.eN)then some false else bif (C.cap != D.cap)then some false else bif (C.fD != D.fD)then some false else bif (C.low != D.low)then some false else bif (C.high != D.high)then some false else (qc C.weights D.weights).bind λE=>bif (!E)then some false else (PT C.eI D.eI).bind λL=>bif (!L)then some false else some true
def as2:=aM [(true,.lU),(true,.lU)] bS (br IX) 42 [zV,as1] func26
def PU(C D:gI):ah (Bool):=(IX C.bI D.bI).bind λE=>bif (!E)then some false else (IX C.next D.next).bind λL=>bif (!L)then some false else bif (!(C.waits==D.waits))then some false else some true
def as3:=aM [(true,.jJ),(true,.jJ)] bS (br PU) 22 [as2] func87
def IY(C D:cR):ah (Bool):=bif (!(C.open_==D.open_))then some false else bif (C.row != D.row)then some false else some true
def as4:=aM [(true,.fQ),(true,.fQ)] bS (br IY) 15 [] func364
abbrev afJ:=(((aa cR)×(aa cR)×Int×af)×(af))
def afK(x:afJ):ah (afJ⊕(((Bool×af)×(af))⊕(((af)×(af))⊕Empty))):=letI C:=x.1.2.2.1;bif C<(x.1.1.length:Int)then xI x.1.1 C λD=>xI x.1.2.1 C λE=>(IY D E).bind λL=>bif (!L)then av ((false,()),())else xG ((x.1.1,x.1.2.1,(W6 (C+1)),()),())else aQ ((),())
def as5:KY 27 (aR f240):=⟨0,lB 0 ⟨[(0,.lf (.aF .fQ 0)),(1,.lf (.aF .fQ 0)),(5,tI)],[],[]⟩ [(1,gC),(2,fq)] afK,lp [as4]⟩
def PW(C D:aa cR):ah (Bool):=bif ((C.length:Int) != (D.length:Int))then some false else bE afK ((C,D,0,()),()) (λE=>some E.1.1) λL=>some true
def as6:=bT [(false,(.sl .fQ)),(false,(.sl .fQ))] bS (br PW) 27 [] [as5] func240
def PX(C D:cy):ah (Bool):=(PW C.aB D.aB).bind λE=>bif (!E)then some false else bif (C.aZ != D.aZ)then some false else some true
def as7:=aM [(true,.iI),(true,.iI)] bS (br PX) 16 [as6] func88
def PY(C D:dn):ah (Bool):=(qc C.last D.last).bind λE=>bif (!E)then some false else (qc C.bx D.bx).bind λL=>bif (!L)then some false else some true
def as8:=aM [(true,.ki),(true,.ki)] bS (br PY) 17 [zV] func89
def IZ(C D:bK):ah (Bool):=(qc C.symbols D.symbols).bind λE=>bif (!E)then some false else bif (!(C.iy==D.iy))then some false else some true
def as9:=aM [(true,.Cell),(true,.Cell)] bS (br IZ) 16 [zV] func365
abbrev afL:=(((aa bK)×(aa bK)×Int×af)×(af))
def afM(x:afL):ah (afL⊕(((Bool×af)×(af))⊕(((af)×(af))⊕Empty))):=letI C:=x.1.2.2.1;bif C<(x.1.1.length:Int)then xI x.1.1 C λD=>xI x.1.2.1 C λE=>(IZ D E).bind λL=>bif (!L)then av ((false,()),())else xG ((x.1.1,x.1.2.1,(W6 (C+1)),()),())else aQ ((),())
def ata:KY 27 (aR f241):=⟨0,lB 0 ⟨[(0,.lf (.aF .Cell 0)),(1,.lf (.aF .Cell 0)),(5,tI)],[],[]⟩ [(1,gC),(2,fq)] afM,lp [as9]⟩
def PZ(C D:aa bK):ah (Bool):=bif ((C.length:Int) != (D.length:Int))then some false else bE afM ((C,D,0,()),()) (λE=>some E.1.1) λL=>some true
def atb:=bT [(false,(.sl .Cell)),(false,(.sl .Cell))] bS (br PZ) 27 [] [ata] func241
def P0(C D:cZ):ah (Bool):=(PZ C.cells D.cells).bind λE=>bif (!E)then some false else (qc C.bz D.bz).bind λL=>bif (!L)then some false else (qc C.bu D.bu).bind λO=>bif (!O)then some false else some true
def atc:=aM [(true,.Array),(true,.Array)] bS (br P0) 23 [zV,atb] func90
def P1(C D:eZ):ah (Bool):=bif (C.cr != D.cr)then some false else (qc C.map D.map).bind λE=>bif (!E)then some false else some true
def atd:=aM [(true,.kj),(true,.kj)] bS (br P1) 16 [zV] func91
def P2(C D:de):ah (Bool):=(qc C.aH D.aH).bind λE=>bif (!E)then some false else bif (C.wait != D.wait)then some false else bif (!(C.dS==D.dS))then some false else some true
def ate:=aM [(true,.kM),(true,.kM)] bS (br P2) 21 [zV] func92
def I0(C D:bQ):ah (Bool):=(qc C.rows D.rows).bind λE=>bif (!E)then some false else (qc C.counts D.counts).bind λL=>bif (!L)then some false else bif (C.cY != D.cY)then some false else some true
def atf:=aM [(true,.eR),(true,.eR)] bS (br I0) 22 [zV] func242
abbrev afN:=(((aa bQ)×(aa bQ)×Int×af)×(af))
def afO(x:afN):ah (afN⊕(((Bool×af)×(af))⊕(((af)×(af))⊕Empty))):=letI C:=x.1.2.2.1;bif C<(x.1.1.length:Int)then xI x.1.1 C λD=>xI x.1.2.1 C λE=>(I0 D E).bind λL=>bif (!L)then av ((false,()),())else xG ((x.1.1,x.1.2.1,(W6 (C+1)),()),())else aQ ((),())
def atg:KY 27 (aR f93):=⟨0,lB 0 ⟨[(0,.lf (.aF .eR 0)),(1,.lf (.aF .eR 0)),(5,tI)],[],[]⟩ [(1,gC),(2,fq)] afO,lp [atf]⟩
def P3(C D:aa bQ):ah (Bool):=bif ((C.length:Int) != (D.length:Int))then some false else bE afO ((C,D,0,()),()) (λE=>some E.1.1) λL=>some true
def ath:=bT [(false,(.sl .eR)),(false,(.sl .eR))] bS (br P3) 27 [] [atg] func93
def I1(C D:aI):ah (Bool):=bif (C.ay != D.ay)then some false else bif (C.row != D.row)then some false else bif (C.bR != D.bR)then some false else some true
def ati:=aM [(true,.Addr),(true,.Addr)] bS (br I1) 20 [] func154
abbrev afP:=(((aa aI)×(aa aI)×Int×af)×(af))
def afQ(x:afP):ah (afP⊕(((Bool×af)×(af))⊕(((af)×(af))⊕Empty))):=letI C:=x.1.2.2.1;bif C<(x.1.1.length:Int)then xI x.1.1 C λD=>xI x.1.2.1 C λE=>(I1 D E).bind λL=>bif (!L)then av ((false,()),())else xG ((x.1.1,x.1.2.1,(W6 (C+1)),()),())else aQ ((),())
def atj:KY 27 (aR f95):=⟨0,lB 0 ⟨[(0,.lf (.aF .Addr 0)),(1,.lf (.aF .Addr 0)),(5,tI)],[],[]⟩ [(1,gC),(2,fq)] afQ,lp [ati]⟩
def P4(C D:aa aI):ah (Bool):=bif ((C.length:Int) != (D.length:Int))then some false else bE afQ ((C,D,0,()),()) (λE=>some E.1.1) λL=>some true
def atk:=bT [(false,(.sl .Addr)),(false,(.sl .Addr))] bS (br P4) 27 [] [atj] func95
def I2(C D:bA):ah (Bool):=bif (C.id != D.id)then some false else bif (C.dN != D.dN)then some false else bif (C.line != D.line)then some false else bif (!(C.write==D.write))then some false else bif (C.data != D.data)then some false else bif (C.at_ != D.at_)then some false else some true
def atl:=aM XI bS (br I2) 35 [] func153
end Go.Proofs.YtnilicojgkhpnaaGreat
