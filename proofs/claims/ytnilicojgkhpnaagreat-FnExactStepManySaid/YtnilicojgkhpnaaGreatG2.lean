/-
  Functions of the program as plain functions of contents, and that the code computes them. Nothing here is a claim.
-/
import Derived.Test.YtnilicojgkhpnaaGreatVZ
import Derived.Test.YtnilicojgkhpnaaGreatRows
import Derived.Test.YtnilicojgkhpnaaGreatG1
namespace Go.Proofs.YtnilicojgkhpnaaGreat
open Go.RowKit Go.Proofs.Tryz
set_option linter.unusedVariables false
set_option maxRecDepth 100000
def IU(C:aI):ah (aI):=some C
def asx:=aM [(true,.Addr)] [(true,.Addr,0)] (bF IU) 14 [] func144
abbrev afz:=(((aa aI)×af×Int×af)×((aa aI)×af))
def afA(x:afz):ah (afz⊕(((af×af)×((aa aI)×af))⊕Empty)):=letI C:=x.1.2.2.1;bif C<(x.1.1.length:Int)then xI x.1.1 C λD=>(IU D).bind λE=>xL x.2.1 C λL=>xG ((x.1.1,(),(W6 (C+1)),()),((x.2.1.set C.toNat E),()))else av (((),()),(x.2.1,()))
def asy:KY 23 (aS f61):=⟨0,lB 0 ⟨[(0,.lf (.aF .Addr 0)),(3,.lf (.own 7)),(4,tI)],[(7,.sl .Addr 2)],[]⟩ [(2,⟨tO,[(7,.sl .Addr 2)],[]⟩)] afA,lp [asx]⟩
def Pz(D:aa aI):ah ((aa aI)):=letI C:=(D.length:Int);if 0 <= C/\C <= C/\C<1073741824 then bh afA ((D,(),0,()),((List.replicate C.toNat (⟨0,0,0⟩:aI)),())) λE=>some E.2.1 else none
def asz:=bT [(false,(.sl .Addr))] [(false,(.sl .Addr),2)] (bF Pz) 23 [] [asy] func61
def IV(C:bA):ah (bA):=some C
def asA:=aM [(true,.dw)] [(true,.dw,0)] (bF IV) 23 [] func143
abbrev afB:=(((aa bA)×af×Int×af)×((aa bA)×af))
def afC(x:afB):ah (afB⊕(((af×af)×((aa bA)×af))⊕Empty)):=letI C:=x.1.2.2.1;bif C<(x.1.1.length:Int)then xI x.1.1 C λD=>(IV D).bind λE=>xL x.2.1 C λL=>xG ((x.1.1,(),(W6 (C+1)),()),((x.2.1.set C.toNat E),()))else av (((),()),(x.2.1,()))
def asC:KY 23 (aS f62):=⟨0,lB 0 ⟨[(0,.lf (.aF .dw 0)),(3,.lf (.own 7)),(4,tI)],[(7,.sl .dw 2)],[]⟩ [(2,⟨tO,[(7,.sl .dw 2)],[]⟩)] afC,lp [asA]⟩
def PB(D:aa bA):ah ((aa bA)):=letI C:=(D.length:Int);if 0 <= C/\C <= C/\C<1073741824 then bh afC ((D,(),0,()),((List.replicate C.toNat (⟨0,0,0,false,0,0⟩:bA)),())) λE=>some E.2.1 else none
def asD:=bT [(false,(.sl .dw))] [(false,(.sl .dw),2)] (bF PB) 23 [] [asC] func62
def IW(C:bV):ah (bV):=some C
def asE:=aM [(true,.ef)] [(true,.ef,0)] (bF IW) 11 [] func196
abbrev afD:=(((aa bV)×af×Int×af)×((aa bV)×af))
def afE(x:afD):ah (afD⊕(((af×af)×((aa bV)×af))⊕Empty)):=letI C:=x.1.2.2.1;bif C<(x.1.1.length:Int)then xI x.1.1 C λD=>(IW D).bind λE=>xL x.2.1 C λL=>xG ((x.1.1,(),(W6 (C+1)),()),((x.2.1.set C.toNat E),()))else av (((),()),(x.2.1,()))
def asF:KY 23 (aS f63):=⟨0,lB 0 ⟨[(0,.lf (.aF .ef 0)),(3,.lf (.own 7)),(4,tI)],O3,[]⟩ [(2,⟨tO,O3,[]⟩)] afE,lp [asE]⟩
def PC(D:aa bV):ah ((aa bV)):=letI C:=(D.length:Int);if 0 <= C/\C <= C/\C<1073741824 then bh afE ((D,(),0,()),((List.replicate C.toNat (⟨0,0⟩:bV)),())) λE=>some E.2.1 else none
def asG:=bT [(false,(.sl .ef))] [(false,(.sl .ef),2)] (bF PC) 23 [] [asF] func63
def PD(C:gB):ah (gB):=some C
def asH:=aM [(true,.kN)] [(true,.kN,0)] (bF PD) 14 [] func64
def PE(C:eE):ah (eE):=some C
def asJ:=aM [(true,.Power)] [(true,.Power,0)] (bF PE) 14 [] func65
def PF(C:kZ):ah (kZ):=some C
def asK:=aM [(true,.nL)] [(true,.nL,0)] (bF PF) 14 [] func66
def IX(C:bU):ah (bU):=some C
def asM:=aM [(true,.eo)] [(true,.eo,0)] (bF IX) 14 [] func197
abbrev afF:=(((aa bU)×af×Int×af)×((aa bU)×af))
def afG(x:afF):ah (afF⊕(((af×af)×((aa bU)×af))⊕Empty)):=letI C:=x.1.2.2.1;bif C<(x.1.1.length:Int)then xI x.1.1 C λD=>(IX D).bind λE=>xL x.2.1 C λL=>xG ((x.1.1,(),(W6 (C+1)),()),((x.2.1.set C.toNat E),()))else av (((),()),(x.2.1,()))
def asN:KY 23 (aS f67):=⟨0,lB 0 ⟨[(0,.lf (.aF .eo 0)),(3,.lf (.own 7)),(4,tI)],[(7,.sl .eo 2)],[]⟩ [(2,⟨tO,[(7,.sl .eo 2)],[]⟩)] afG,lp [asM]⟩
def PG(D:aa bU):ah ((aa bU)):=letI C:=(D.length:Int);if 0 <= C/\C <= C/\C<1073741824 then bh afG ((D,(),0,()),((List.replicate C.toNat (⟨0,0,0⟩:bU)),())) λE=>some E.2.1 else none
def asO:=bT O2 [(false,(.sl .eo),2)] (bF PG) 23 [] [asN] func67
def PI(C:aG):ah (aG):=some C
def asP:=aM [(true,.Command)] EK (bF PI) 17 [] func326
def IY(C:cO):ah (cO):=(PI C.cmd).bind λD=>some (⟨C.at_,D⟩:cO)
def asQ:=aM [(true,.Event)] [(true,.Event,0)] (bF IY) 12 [asP] func198
abbrev afH:=(((aa cO)×af×Int×af)×((aa cO)×af))
def afI(x:afH):ah (afH⊕(((af×af)×((aa cO)×af))⊕Empty)):=letI C:=x.1.2.2.1;bif C<(x.1.1.length:Int)then xI x.1.1 C λD=>(IY D).bind λE=>xL x.2.1 C λL=>xG ((x.1.1,(),(W6 (C+1)),()),((x.2.1.set C.toNat E),()))else av (((),()),(x.2.1,()))
def asR:KY 23 (aS f68):=⟨0,lB 0 ⟨[(0,.lf (.aF .Event 0)),(3,.lf (.own 7)),(4,tI)],[(7,.sl .Event 2)],[]⟩ [(2,⟨tO,[(7,.sl .Event 2)],[]⟩)] afI,lp [asQ]⟩
def PJ(D:aa cO):ah ((aa cO)):=letI C:=(D.length:Int);if 0 <= C/\C <= C/\C<1073741824 then bh afI ((D,(),0,()),((List.replicate C.toNat (⟨0,⟨0,0,0,0⟩⟩:cO)),())) λE=>some E.2.1 else none
def asT:=bT [(false,(.sl .Event))] [(false,(.sl .Event),2)] (bF PJ) 23 [] [asR] func68
def IZ(C:cW):ah (cW):=some C
def asU:=aM [(true,.gd)] [(true,.gd,0)] (bF IZ) 17 [] func199
abbrev afJ:=(((aa cW)×af×Int×af)×((aa cW)×af))
def afK(x:afJ):ah (afJ⊕(((af×af)×((aa cW)×af))⊕Empty)):=letI C:=x.1.2.2.1;bif C<(x.1.1.length:Int)then xI x.1.1 C λD=>(IZ D).bind λE=>xL x.2.1 C λL=>xG ((x.1.1,(),(W6 (C+1)),()),((x.2.1.set C.toNat E),()))else av (((),()),(x.2.1,()))
def asW:KY 23 (aS f69):=⟨0,lB 0 ⟨[(0,.lf (.aF .gd 0)),(3,.lf (.own 7)),(4,tI)],[(7,.sl .gd 2)],[]⟩ [(2,⟨tO,[(7,.sl .gd 2)],[]⟩)] afK,lp [asU]⟩
def PL(D:aa cW):ah ((aa cW)):=letI C:=(D.length:Int);if 0 <= C/\C <= C/\C<1073741824 then bh afK ((D,(),0,()),((List.replicate C.toNat (⟨0,0,0,0⟩:cW)),())) λE=>some E.2.1 else none
def asX:=bT [(false,(.sl .gd))] [(false,(.sl .gd),2)] (bF PL) 23 [] [asW] func69
def Cm(C:ax):ah (ax):=(Pj C.config).bind λD=>(Pn C.box).bind λE=>(Pp C.bq).bind λL=>(Pr C.ready).bind λO=>(Pv C.array).bind λT=>(Pw C.spare).bind λU=>(Px C.aP).bind λY=>(Py C.bH).bind λZ=>(p9 C.guard).bind λy9=>(Pz C.pending).bind λgS=>(PB C.queue).bind λeM=>(PC C.shares).bind λgD=>(PD C.drain).bind λgT=>(PE C.aZ).bind λjz=>(PF C.cK).bind λiE=>(PG C.errors).bind λkF=>(PJ C.trace).bind λgN=>(PL C.cS).bind λjT=>some (⟨D,E,C.now,L,O,T,U,Y,Z,y9,gS,eM,gD,gT,jz,iE,kF,gN,jT⟩:ax)
def asY:=aM sv [(true,.cN,4)] (bF Cm) 80 [asd,ash,asm,asn,asr,ass,ast,asw,zV,asz,asD,asG,asH,asJ,asK,asO,asT,asX] func10
def PN(C D:aV):ah (Bool):=bif (C.cH != D.cH)then some false else bif (C.aB != D.aB)then some false else bif (C.rows != D.rows)then some false else bif (C.aT != D.aT)then some false else some true
def asZ:=aM [(true,.fe),(true,.fe)] bS (br PN) 25 [] func236
def PO(C D:c9):ah (Bool):=bif (C.jF != D.jF)then some false else bif (C.rp != D.rp)then some false else bif (C.gI != D.gI)then some false else bif (C.mI != D.mI)then some false else bif (C.jG != D.jG)then some false else bif (C.jH != D.jH)then some false else bif (C.mJ != D.mJ)then some false else bif (C.mK != D.mK)then some false else bif (C.jh != D.jh)then some false else bif (C.wr != D.wr)then some false else bif (C.mL != D.mL)then some false else bif (C.mM != D.mM)then some false else bif (C.pG != D.pG)then some false else bif (C.mN != D.mN)then some false else bif (C.nI != D.nI)then some false else bif (C.xp != D.xp)then some false else bif (C.xs != D.xs)then some false else some true
def as0:=aM [(true,.jI),(true,.jI)] bS (br PO) 90 [] func237
def PR(C D:jE):ah (Bool):=bif (C.order != D.order)then some false else bif (!(C.hash==D.hash))then some false else some true
def as1:=aM [(true,.nJ),(true,.nJ)] bS (br PR) 15 [] func238
def PS(C D:iX):ah (Bool):=bif (C.bz != D.bz)then some false else bif (C.bu != D.bu)then some false else some true
def as2:=aM [(true,.mO),(true,.mO)] bS (br PS) 15 [] func239
def PT(C D:ig):ah (Bool):=(PN C.aE D.aE).bind λE=>bif (!E)then some false else (PO C.ck D.ck).bind λL=>bif (!L)then some false else (PR C.mapping D.mapping).bind λO=>bif (!O)then some false else bif (C.cr != D.cr)then some false else bif (C.interval != D.interval)then some false else bif (C.iz != D.iz)then some false else (PS C.dO D.dO).bind λT=>bif (!T)then some false else some true
def as3:=aM [(true,.Config),(true,.Config)] bS (br PT) 44 [asZ,as0,as1,as2] func86
abbrev afL:=(((aa Int)×(aa Int)×Int×af)×(af))
def afM(x:afL):ah (afL⊕(((Bool×af)×(af))⊕(((af)×(af))⊕Empty))):=letI C:=x.1.2.2.1;bif C<(x.1.1.length:Int)then xI x.1.1 C λD=>xI x.1.2.1 C λE=>bif (D != E)then av ((false,()),())else xG ((x.1.1,x.1.2.1,(W6 (C+1)),()),())else aQ ((),())
def as4:KY 26 (aS f94):=⟨0,lB 0 ⟨[(0,.lf (.aF .int 0)),(1,.lf (.aF .int 0)),(5,tI)],[],[]⟩ [(1,gC),(2,fq)] afM,lp []⟩
def qa(C D:aa Int):ah (Bool):=bif ((C.length:Int) != (D.length:Int))then some false else bE afM ((C,D,0,()),()) (λE=>some E.1.1) λL=>some true
def zW:=bT [(false,(.sl .int)),(false,(.sl .int))] bS (br qa) 26 [] [as4] func94
def PU(C D:kL):ah (Bool):=bif (C.down != D.down)then some false else bif (C.sleep != D.sleep)then some false else some true
def as5:=aM [(true,.nK),(true,.nK)] bS (br PU) 15 [] func142
def I0(C D:fz):ah (Bool):=bif (C.eO != D.eO)then some false else bif (C.cap != D.cap)then some false else bif (C.fD != D.fD)then some false else bif (C.low != D.low)then some false else bif (C.high != D.high)then some false else (qa C.weights D.weights).bind λE=>bif (!E)then some false else (PU C.eK D.eK).bind λL=>bif (!L)then some false else some true
def as6:=aM [(true,.lU),(true,.lU)] bS (br I0) 42 [zW,as5] func26
def PW(C D:gJ):ah (Bool):=(I0 C.bI D.bI).bind λE=>bif (!E)then some false else (I0 C.next D.next).bind λL=>bif (!L)then some false else bif (!(C.waits==D.waits))then some false else some true
def as7:=aM [(true,.jJ),(true,.jJ)] bS (br PW) 22 [as6] func87
def I1(C D:cQ):ah (Bool):=bif (!(C.open_==D.open_))then some false else bif (C.row != D.row)then some false else some true
def as8:=aM [(true,.fQ),(true,.fQ)] bS (br I1) 15 [] func364
abbrev afN:=(((aa cQ)×(aa cQ)×Int×af)×(af))
def afO(x:afN):ah (afN⊕(((Bool×af)×(af))⊕(((af)×(af))⊕Empty))):=letI C:=x.1.2.2.1;bif C<(x.1.1.length:Int)then xI x.1.1 C λD=>xI x.1.2.1 C λE=>(I1 D E).bind λL=>bif (!L)then av ((false,()),())else xG ((x.1.1,x.1.2.1,(W6 (C+1)),()),())else aQ ((),())
def as9:KY 27 (aS f240):=⟨0,lB 0 ⟨[(0,.lf (.aF .fQ 0)),(1,.lf (.aF .fQ 0)),(5,tI)],[],[]⟩ [(1,gC),(2,fq)] afO,lp [as8]⟩
def PX(C D:aa cQ):ah (Bool):=bif ((C.length:Int) != (D.length:Int))then some false else bE afO ((C,D,0,()),()) (λE=>some E.1.1) λL=>some true
def ata:=bT [(false,(.sl .fQ)),(false,(.sl .fQ))] bS (br PX) 27 [] [as9] func240
def PY(C D:cy):ah (Bool):=(PX C.aB D.aB).bind λE=>bif (!E)then some false else bif (C.aZ != D.aZ)then some false else some true
def atb:=aM [(true,.iI),(true,.iI)] bS (br PY) 16 [ata] func88
def PZ(C D:dn):ah (Bool):=(qa C.last D.last).bind λE=>bif (!E)then some false else (qa C.bx D.bx).bind λL=>bif (!L)then some false else some true
def atc:=aM [(true,.ki),(true,.ki)] bS (br PZ) 17 [zW] func89
def I2(C D:bK):ah (Bool):=(qa C.symbols D.symbols).bind λE=>bif (!E)then some false else bif (!(C.iy==D.iy))then some false else some true
def atd:=aM [(true,.Cell),(true,.Cell)] bS (br I2) 16 [zW] func365
abbrev afP:=(((aa bK)×(aa bK)×Int×af)×(af))
def afQ(x:afP):ah (afP⊕(((Bool×af)×(af))⊕(((af)×(af))⊕Empty))):=letI C:=x.1.2.2.1;bif C<(x.1.1.length:Int)then xI x.1.1 C λD=>xI x.1.2.1 C λE=>(I2 D E).bind λL=>bif (!L)then av ((false,()),())else xG ((x.1.1,x.1.2.1,(W6 (C+1)),()),())else aQ ((),())
def ate:KY 27 (aS f241):=⟨0,lB 0 ⟨[(0,.lf (.aF .Cell 0)),(1,.lf (.aF .Cell 0)),(5,tI)],[],[]⟩ [(1,gC),(2,fq)] afQ,lp [atd]⟩
def P0(C D:aa bK):ah (Bool):=bif ((C.length:Int) != (D.length:Int))then some false else bE afQ ((C,D,0,()),()) (λE=>some E.1.1) λL=>some true
def atf:=bT [(false,(.sl .Cell)),(false,(.sl .Cell))] bS (br P0) 27 [] [ate] func241
def P1(C D:cZ):ah (Bool):=(P0 C.cells D.cells).bind λE=>bif (!E)then some false else (qa C.bz D.bz).bind λL=>bif (!L)then some false else (qa C.bu D.bu).bind λO=>bif (!O)then some false else some true
def atg:=aM [(true,.Array),(true,.Array)] bS (br P1) 23 [zW,atf] func90
def P2(C D:eZ):ah (Bool):=bif (C.cr != D.cr)then some false else (qa C.map D.map).bind λE=>bif (!E)then some false else some true
def ath:=aM [(true,.kj),(true,.kj)] bS (br P2) 16 [zW] func91
def P3(C D:de):ah (Bool):=(qa C.aH D.aH).bind λE=>bif (!E)then some false else bif (C.wait != D.wait)then some false else bif (!(C.dS==D.dS))then some false else some true
def ati:=aM [(true,.kM),(true,.kM)] bS (br P3) 21 [zW] func92
def I3(C D:bQ):ah (Bool):=(qa C.rows D.rows).bind λE=>bif (!E)then some false else (qa C.counts D.counts).bind λL=>bif (!L)then some false else bif (C.cY != D.cY)then some false else some true
def atj:=aM [(true,.eR),(true,.eR)] bS (br I3) 22 [zW] func242
abbrev afR:=(((aa bQ)×(aa bQ)×Int×af)×(af))
def afS(x:afR):ah (afR⊕(((Bool×af)×(af))⊕(((af)×(af))⊕Empty))):=letI C:=x.1.2.2.1;bif C<(x.1.1.length:Int)then xI x.1.1 C λD=>xI x.1.2.1 C λE=>(I3 D E).bind λL=>bif (!L)then av ((false,()),())else xG ((x.1.1,x.1.2.1,(W6 (C+1)),()),())else aQ ((),())
def atk:KY 27 (aS f93):=⟨0,lB 0 ⟨[(0,.lf (.aF .eR 0)),(1,.lf (.aF .eR 0)),(5,tI)],[],[]⟩ [(1,gC),(2,fq)] afS,lp [atj]⟩
def P4(C D:aa bQ):ah (Bool):=bif ((C.length:Int) != (D.length:Int))then some false else bE afS ((C,D,0,()),()) (λE=>some E.1.1) λL=>some true
def atl:=bT [(false,(.sl .eR)),(false,(.sl .eR))] bS (br P4) 27 [] [atk] func93
def I4(C D:aI):ah (Bool):=bif (C.ay != D.ay)then some false else bif (C.row != D.row)then some false else bif (C.bR != D.bR)then some false else some true
def atm:=aM [(true,.Addr),(true,.Addr)] bS (br I4) 20 [] func154
abbrev afT:=(((aa aI)×(aa aI)×Int×af)×(af))
def afU(x:afT):ah (afT⊕(((Bool×af)×(af))⊕(((af)×(af))⊕Empty))):=letI C:=x.1.2.2.1;bif C<(x.1.1.length:Int)then xI x.1.1 C λD=>xI x.1.2.1 C λE=>(I4 D E).bind λL=>bif (!L)then av ((false,()),())else xG ((x.1.1,x.1.2.1,(W6 (C+1)),()),())else aQ ((),())
def atn:KY 27 (aS f95):=⟨0,lB 0 ⟨[(0,.lf (.aF .Addr 0)),(1,.lf (.aF .Addr 0)),(5,tI)],[],[]⟩ [(1,gC),(2,fq)] afU,lp [atm]⟩
def P5(C D:aa aI):ah (Bool):=bif ((C.length:Int) != (D.length:Int))then some false else bE afU ((C,D,0,()),()) (λE=>some E.1.1) λL=>some true
def ato:=bT [(false,(.sl .Addr)),(false,(.sl .Addr))] bS (br P5) 27 [] [atn] func95
def I5(C D:bA):ah (Bool):=bif (C.id != D.id)then some false else bif (C.dN != D.dN)then some false else bif (C.line != D.line)then some false else bif (!(C.write==D.write))then some false else bif (C.data != D.data)then some false else bif (C.at_ != D.at_)then some false else some true
def atp:=aM XH bS (br I5) 35 [] func153
end Go.Proofs.YtnilicojgkhpnaaGreat
