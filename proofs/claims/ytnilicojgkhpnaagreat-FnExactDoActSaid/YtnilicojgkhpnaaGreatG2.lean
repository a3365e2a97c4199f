/-
  Functions of the program as plain functions of contents, and that the code computes them. Nothing here is a claim.
-/
import Derived.Test.YtnilicojgkhpnaaGreatVZ
import Derived.Test.YtnilicojgkhpnaaGreatRows
import Derived.Test.YtnilicojgkhpnaaGreatG1
namespace Go.Proofs.YtnilicojgkhpnaaGreat
open Go.RowKit Go.Proofs.Tryz
set_option linter.unusedVariables false
set_option maxRecDepth 100000
def Fx(C:aJ):ah (aJ):=some C
def aha:=aP [(true,.Addr)] [(true,.Addr,0)] (bG Fx) 14 [] func144
abbrev ahb:=(((aa aJ)×af×Int×af)×((aa aJ)×af))
def ahc(x:ahb):ah (ahb⊕(((af×af)×((aa aJ)×af))⊕Empty)):=letI C:=x.1.2.2.1;bif C<(x.1.1.length:Int)then xI x.1.1 C λD=>(Fx D).bind λE=>xL x.2.1 C λL=>xG ((x.1.1,(),(W6 (C+1)),()),((x.2.1.set C.toNat E),()))else av (((),()),(x.2.1,()))
def auG:KY 23 (aW f61):=⟨0,lB 0 ⟨[(0,.lf (.aF .Addr 0)),(3,.lf (.own 7)),(4,tI)],[(7,.sl .Addr 2)],[]⟩ [(2,⟨ug,[(7,.sl .Addr 2)],[]⟩)] ahc,lp [aha]⟩
def QZ(D:aa aJ):ah ((aa aJ)):=letI C:=(D.length:Int);if 0 <= C/\C <= C/\C<1073741824 then bk ahc ((D,(),0,()),((List.replicate C.toNat (⟨0,0,0⟩:aJ)),())) λE=>some E.2.1 else none
def auH:=bS [(false,(.sl .Addr))] [(false,(.sl .Addr),2)] (bG QZ) 23 [] [auG] func61
def Fy(C:aK):ah (aK):=some C
def ahd:=aP [(true,.cW)] [(true,.cW,0)] (bG Fy) 23 [] func143
abbrev ahe:=(((aa aK)×af×Int×af)×((aa aK)×af))
def ahf(x:ahe):ah (ahe⊕(((af×af)×((aa aK)×af))⊕Empty)):=letI C:=x.1.2.2.1;bif C<(x.1.1.length:Int)then xI x.1.1 C λD=>(Fy D).bind λE=>xL x.2.1 C λL=>xG ((x.1.1,(),(W6 (C+1)),()),((x.2.1.set C.toNat E),()))else av (((),()),(x.2.1,()))
def auI:KY 23 (aW f62):=⟨0,lB 0 ⟨[(0,.lf (.aF .cW 0)),(3,.lf (.own 7)),(4,tI)],[(7,.sl .cW 2)],[]⟩ [(2,⟨ug,[(7,.sl .cW 2)],[]⟩)] ahf,lp [ahd]⟩
def Q0(D:aa aK):ah ((aa aK)):=letI C:=(D.length:Int);if 0 <= C/\C <= C/\C<1073741824 then bk ahf ((D,(),0,()),((List.replicate C.toNat (⟨0,0,0,false,0,0⟩:aK)),())) λE=>some E.2.1 else none
def auJ:=bS [(false,(.sl .cW))] [(false,(.sl .cW),2)] (bG Q0) 23 [] [auI] func62
def JT(C:bY):ah (bY):=some C
def auK:=aP [(true,.eC)] [(true,.eC,0)] (bG JT) 11 [] func196
abbrev ahg:=(((aa bY)×af×Int×af)×((aa bY)×af))
def ahh(x:ahg):ah (ahg⊕(((af×af)×((aa bY)×af))⊕Empty)):=letI C:=x.1.2.2.1;bif C<(x.1.1.length:Int)then xI x.1.1 C λD=>(JT D).bind λE=>xL x.2.1 C λL=>xG ((x.1.1,(),(W6 (C+1)),()),((x.2.1.set C.toNat E),()))else av (((),()),(x.2.1,()))
def auL:KY 23 (aW f63):=⟨0,lB 0 ⟨[(0,.lf (.aF .eC 0)),(3,.lf (.own 7)),(4,tI)],Qv,[]⟩ [(2,⟨ug,Qv,[]⟩)] ahh,lp [auK]⟩
def Q1(D:aa bY):ah ((aa bY)):=letI C:=(D.length:Int);if 0 <= C/\C <= C/\C<1073741824 then bk ahh ((D,(),0,()),((List.replicate C.toNat (⟨0,0⟩:bY)),())) λE=>some E.2.1 else none
def auM:=bS [(false,(.sl .eC))] [(false,(.sl .eC),2)] (bG Q1) 23 [] [auL] func63
def Q2(C:gP):ah (gP):=some C
def auN:=aP [(true,.lD)] [(true,.lD,0)] (bG Q2) 14 [] func64
def Q3(C:eN):ah (eN):=some C
def auO:=aP [(true,.Power)] [(true,.Power,0)] (bG Q3) 14 [] func65
def Q4(C:lV):ah (lV):=some C
def auP:=aP [(true,.oa)] [(true,.oa,0)] (bG Q4) 14 [] func66
def JU(C:bW):ah (bW):=some C
def auQ:=aP [(true,.eH)] [(true,.eH,0)] (bG JU) 14 [] func197
abbrev ahi:=(((aa bW)×af×Int×af)×((aa bW)×af))
def ahj(x:ahi):ah (ahi⊕(((af×af)×((aa bW)×af))⊕Empty)):=letI C:=x.1.2.2.1;bif C<(x.1.1.length:Int)then xI x.1.1 C λD=>(JU D).bind λE=>xL x.2.1 C λL=>xG ((x.1.1,(),(W6 (C+1)),()),((x.2.1.set C.toNat E),()))else av (((),()),(x.2.1,()))
def auR:KY 23 (aW f67):=⟨0,lB 0 ⟨[(0,.lf (.aF .eH 0)),(3,.lf (.own 7)),(4,tI)],[(7,.sl .eH 2)],[]⟩ [(2,⟨ug,[(7,.sl .eH 2)],[]⟩)] ahj,lp [auQ]⟩
def Q5(D:aa bW):ah ((aa bW)):=letI C:=(D.length:Int);if 0 <= C/\C <= C/\C<1073741824 then bk ahj ((D,(),0,()),((List.replicate C.toNat (⟨0,0,0⟩:bW)),())) λE=>some E.2.1 else none
def auS:=bS Qu [(false,(.sl .eH),2)] (bG Q5) 23 [] [auR] func67
def Q6(C:aG):ah (aG):=some C
def auT:=aP [(true,.Command)] Ft (bG Q6) 17 [] func326
def JV(C:c8):ah (c8):=(Q6 C.cmd).bind λD=>some (⟨C.at_,D⟩:c8)
def auU:=aP [(true,.Event)] [(true,.Event,0)] (bG JV) 12 [auT] func198
abbrev ahk:=(((aa c8)×af×Int×af)×((aa c8)×af))
def ahl(x:ahk):ah (ahk⊕(((af×af)×((aa c8)×af))⊕Empty)):=letI C:=x.1.2.2.1;bif C<(x.1.1.length:Int)then xI x.1.1 C λD=>(JV D).bind λE=>xL x.2.1 C λL=>xG ((x.1.1,(),(W6 (C+1)),()),((x.2.1.set C.toNat E),()))else av (((),()),(x.2.1,()))
def auV:KY 23 (aW f68):=⟨0,lB 0 ⟨[(0,.lf (.aF .Event 0)),(3,.lf (.own 7)),(4,tI)],[(7,.sl .Event 2)],[]⟩ [(2,⟨ug,[(7,.sl .Event 2)],[]⟩)] ahl,lp [auU]⟩
def Q7(D:aa c8):ah ((aa c8)):=letI C:=(D.length:Int);if 0 <= C/\C <= C/\C<1073741824 then bk ahl ((D,(),0,()),((List.replicate C.toNat (⟨0,⟨0,0,0,0⟩⟩:c8)),())) λE=>some E.2.1 else none
def auW:=bS [(false,(.sl .Event))] [(false,(.sl .Event),2)] (bG Q7) 23 [] [auV] func68
def JW(C:cE):ah (cE):=some C
def auX:=aP [(true,.fV)] [(true,.fV,0)] (bG JW) 17 [] func199
abbrev ahm:=(((aa cE)×af×Int×af)×((aa cE)×af))
def ahn(x:ahm):ah (ahm⊕(((af×af)×((aa cE)×af))⊕Empty)):=letI C:=x.1.2.2.1;bif C<(x.1.1.length:Int)then xI x.1.1 C λD=>(JW D).bind λE=>xL x.2.1 C λL=>xG ((x.1.1,(),(W6 (C+1)),()),((x.2.1.set C.toNat E),()))else av (((),()),(x.2.1,()))
def auY:KY 23 (aW f69):=⟨0,lB 0 ⟨[(0,.lf (.aF .fV 0)),(3,.lf (.own 7)),(4,tI)],[(7,.sl .fV 2)],[]⟩ [(2,⟨ug,[(7,.sl .fV 2)],[]⟩)] ahn,lp [auX]⟩
def Q8(D:aa cE):ah ((aa cE)):=letI C:=(D.length:Int);if 0 <= C/\C <= C/\C<1073741824 then bk ahn ((D,(),0,()),((List.replicate C.toNat (⟨0,0,0,0⟩:cE)),())) λE=>some E.2.1 else none
def auZ:=bS [(false,(.sl .fV))] [(false,(.sl .fV),2)] (bG Q8) 23 [] [auY] func69
def CP(C:ax):ah (ax):=(QL C.config).bind λD=>(QN C.box).bind λE=>(QS C.br).bind λL=>(QT C.ready).bind λO=>(QV C.array).bind λT=>(QW C.spare).bind λU=>(QX C.aV).bind λY=>(QY C.bJ).bind λZ=>(qA C.guard).bind λy9=>(QZ C.pending).bind λgS=>(Q0 C.queue).bind λeP=>(Q1 C.shares).bind λgC=>(Q2 C.drain).bind λgD=>(Q3 C.bf).bind λiV=>(Q4 C.cH).bind λig=>(Q5 C.errors).bind λjH=>(Q7 C.trace).bind λhG=>(Q8 C.cy).bind λkD=>some (⟨D,E,C.now,L,O,T,U,Y,Z,y9,gS,eP,gC,gD,iV,ig,jH,hG,kD⟩:ax)
def au0:=aP sN [(true,.cN,4)] (bG CP) 80 [aun,auq,auu,auv,auA,auB,auC,auF,Am,auH,auJ,auM,auN,auO,auP,auS,auW,auZ] func10
def Q9(C D:aM):ah (Bool):=bif (C.cu != D.cu)then some false else bif (C.aC != D.aC)then some false else bif (C.rows != D.rows)then some false else bif (C.aO != D.aO)then some false else some true
def au1:=aP [(true,.fA),(true,.fA)] bR (bq Q9) 25 [] func236
def Ra(C D:dj):ah (Bool):=bif (C.jY != D.jY)then some false else bif (C.rp != D.rp)then some false else bif (C.gX != D.gX)then some false else bif (C.nt != D.nt)then some false else bif (C.jZ != D.jZ)then some false else bif (C.ke != D.ke)then some false else bif (C.nu != D.nu)then some false else bif (C.ny != D.ny)then some false else bif (C.jy != D.jy)then some false else bif (C.wr != D.wr)then some false else bif (C.nA != D.nA)then some false else bif (C.nB != D.nB)then some false else bif (C.p9 != D.p9)then some false else bif (C.nD != D.nD)then some false else bif (C.n7 != D.n7)then some false else bif (C.xp != D.xp)then some false else bif (C.xs != D.xs)then some false else some true
def au2:=aP [(true,.kf),(true,.kf)] bR (bq Ra) 90 [] func237
def Rb(C D:jX):ah (Bool):=bif (C.order != D.order)then some false else bif (!(C.hash==D.hash))then some false else some true
def au3:=aP [(true,.n8),(true,.n8)] bR (bq Rb) 15 [] func238
def Rc(C D:jq):ah (Bool):=bif (C.bx != D.bx)then some false else bif (C.bw != D.bw)then some false else some true
def au4:=aP [(true,.nE),(true,.nE)] bR (bq Rc) 15 [] func239
def Rd(C D:iG):ah (Bool):=(Q9 C.az D.az).bind λE=>bif (!E)then some false else (Ra C.cq D.cq).bind λL=>bif (!L)then some false else (Rb C.mapping D.mapping).bind λO=>bif (!O)then some false else bif (C.bQ != D.bQ)then some false else bif (C.interval != D.interval)then some false else bif (C.iQ != D.iQ)then some false else (Rc C.dW D.dW).bind λT=>bif (!T)then some false else some true
def au5:=aP [(true,.Config),(true,.Config)] bR (bq Rd) 44 [au1,au2,au3,au4] func86
abbrev aho:=(((aa Int)×(aa Int)×Int×af)×(af))
def ahp(x:aho):ah (aho⊕(((Bool×af)×(af))⊕(((af)×(af))⊕Empty))):=letI C:=x.1.2.2.1;bif C<(x.1.1.length:Int)then xI x.1.1 C λD=>xI x.1.2.1 C λE=>bif (D != E)then av ((false,()),())else xG ((x.1.1,x.1.2.1,(W6 (C+1)),()),())else aQ ((),())
def au6:KY 26 (aW f94):=⟨0,lB 0 ⟨[(0,.lf (.aF .int 0)),(1,.lf (.aF .int 0)),(5,tI)],[],[]⟩ [(1,gR),(2,fq)] ahp,lp []⟩
def qB(C D:aa Int):ah (Bool):=bif ((C.length:Int) != (D.length:Int))then some false else bE ahp ((C,D,0,()),()) (λE=>some E.1.1) λL=>some true
def An:=bS [(false,(.sl .int)),(false,(.sl .int))] bR (bq qB) 26 [] [au6] func94
def Re(C D:lA):ah (Bool):=bif (C.down != D.down)then some false else bif (C.sleep != D.sleep)then some false else some true
def au7:=aP [(true,.n9),(true,.n9)] bR (bq Re) 15 [] func142
def Fz(C D:fh):ah (Bool):=bif (C.eX != D.eX)then some false else bif (C.cap != D.cap)then some false else bif (C.fQ != D.fQ)then some false else bif (C.low != D.low)then some false else bif (C.high != D.high)then some false else (qB C.weights D.weights).bind λE=>bif (!E)then some false else (Re C.eT D.eT).bind λL=>bif (!L)then some false else some true
def ahq:=aP [(true,.lE),(true,.lE)] bR (bq Fz) 42 [An,au7] func26
def Rf(C D:fM):ah (Bool):=(Fz C.bH D.bH).bind λE=>bif (!E)then some false else (Fz C.next D.next).bind λL=>bif (!L)then some false else bif (!(C.waits==D.waits))then some false else some true
def au8:=aP [(true,.jM),(true,.jM)] bR (bq Rf) 22 [ahq] func87
def JX(C D:c9):ah (Bool):=bif (!(C.open_==D.open_))then some false else bif (C.row != D.row)then some false else some true
def au9:=aP [(true,.gi),(true,.gi)] bR (bq JX) 15 [] func364
abbrev ahr:=(((aa c9)×(aa c9)×Int×af)×(af))
def ahs(x:ahr):ah (ahr⊕(((Bool×af)×(af))⊕(((af)×(af))⊕Empty))):=letI C:=x.1.2.2.1;bif C<(x.1.1.length:Int)then xI x.1.1 C λD=>xI x.1.2.1 C λE=>(JX D E).bind λL=>bif (!L)then av ((false,()),())else xG ((x.1.1,x.1.2.1,(W6 (C+1)),()),())else aQ ((),())
def ava:KY 27 (aW f240):=⟨0,lB 0 ⟨[(0,.lf (.aF .gi 0)),(1,.lf (.aF .gi 0)),(5,tI)],[],[]⟩ [(1,gR),(2,fq)] ahs,lp [au9]⟩
def Rg(C D:aa c9):ah (Bool):=bif ((C.length:Int) != (D.length:Int))then some false else bE ahs ((C,D,0,()),()) (λE=>some E.1.1) λL=>some true
def avb:=bS [(false,(.sl .gi)),(false,(.sl .gi))] bR (bq Rg) 27 [] [ava] func240
def Rh(C D:cC):ah (Bool):=(Rg C.aC D.aC).bind λE=>bif (!E)then some false else bif (C.bf != D.bf)then some false else some true
def avc:=aP [(true,.ja),(true,.ja)] bR (bq Rh) 16 [avb] func88
def Ri(C D:dB):ah (Bool):=(qB C.last D.last).bind λE=>bif (!E)then some false else (qB C.bC D.bC).bind λL=>bif (!L)then some false else some true
def avd:=aP [(true,.kO),(true,.kO)] bR (bq Ri) 17 [An] func89
def JY(C D:bP):ah (Bool):=(qB C.symbols D.symbols).bind λE=>bif (!E)then some false else bif (!(C.gO==D.gO))then some false else some true
def ave:=aP [(true,.Cell),(true,.Cell)] bR (bq JY) 16 [An] func365
abbrev aht:=(((aa bP)×(aa bP)×Int×af)×(af))
def ahu(x:aht):ah (aht⊕(((Bool×af)×(af))⊕(((af)×(af))⊕Empty))):=letI C:=x.1.2.2.1;bif C<(x.1.1.length:Int)then xI x.1.1 C λD=>xI x.1.2.1 C λE=>(JY D E).bind λL=>bif (!L)then av ((false,()),())else xG ((x.1.1,x.1.2.1,(W6 (C+1)),()),())else aQ ((),())
def avf:KY 27 (aW f241):=⟨0,lB 0 ⟨[(0,.lf (.aF .Cell 0)),(1,.lf (.aF .Cell 0)),(5,tI)],[],[]⟩ [(1,gR),(2,fq)] ahu,lp [ave]⟩
def Rj(C D:aa bP):ah (Bool):=bif ((C.length:Int) != (D.length:Int))then some false else bE ahu ((C,D,0,()),()) (λE=>some E.1.1) λL=>some true
def avg:=bS [(false,(.sl .Cell)),(false,(.sl .Cell))] bR (bq Rj) 27 [] [avf] func241
def Rk(C D:cV):ah (Bool):=(Rj C.cells D.cells).bind λE=>bif (!E)then some false else (qB C.bx D.bx).bind λL=>bif (!L)then some false else (qB C.bw D.bw).bind λO=>bif (!O)then some false else some true
def avh:=aP [(true,.Array),(true,.Array)] bR (bq Rk) 23 [An,avg] func90
def Ro(C D:cQ):ah (Bool):=bif (C.bQ != D.bQ)then some false else (qB C.map D.map).bind λE=>bif (!E)then some false else some true
def avi:=aP [(true,.jL),(true,.jL)] bR (bq Ro) 16 [An] func91
def Rp(C D:cS):ah (Bool):=(qB C.aI D.aI).bind λE=>bif (!E)then some false else bif (C.wait != D.wait)then some false else bif (!(C.dD==D.dD))then some false else some true
def avj:=aP [(true,.jz),(true,.jz)] bR (bq Rp) 21 [An] func92
def JZ(C D:bV):ah (Bool):=(qB C.rows D.rows).bind λE=>bif (!E)then some false else (qB C.counts D.counts).bind λL=>bif (!L)then some false else bif (C.dg != D.dg)then some false else some true
def avk:=aP [(true,.fj),(true,.fj)] bR (bq JZ) 22 [An] func242
abbrev ahv:=(((aa bV)×(aa bV)×Int×af)×(af))
def ahw(x:ahv):ah (ahv⊕(((Bool×af)×(af))⊕(((af)×(af))⊕Empty))):=letI C:=x.1.2.2.1;bif C<(x.1.1.length:Int)then xI x.1.1 C λD=>xI x.1.2.1 C λE=>(JZ D E).bind λL=>bif (!L)then av ((false,()),())else xG ((x.1.1,x.1.2.1,(W6 (C+1)),()),())else aQ ((),())
def avl:KY 27 (aW f93):=⟨0,lB 0 ⟨[(0,.lf (.aF .fj 0)),(1,.lf (.aF .fj 0)),(5,tI)],[],[]⟩ [(1,gR),(2,fq)] ahw,lp [avk]⟩
def Rq(C D:aa bV):ah (Bool):=bif ((C.length:Int) != (D.length:Int))then some false else bE ahw ((C,D,0,()),()) (λE=>some E.1.1) λL=>some true
def avm:=bS [(false,(.sl .fj)),(false,(.sl .fj))] bR (bq Rq) 27 [] [avl] func93
def FA(C D:aJ):ah (Bool):=bif (C.ay != D.ay)then some false else bif (C.row != D.row)then some false else bif (C.bT != D.bT)then some false else some true
def ahx:=aP [(true,.Addr),(true,.Addr)] bR (bq FA) 20 [] func154
abbrev ahy:=(((aa aJ)×(aa aJ)×Int×af)×(af))
def ahz(x:ahy):ah (ahy⊕(((Bool×af)×(af))⊕(((af)×(af))⊕Empty))):=letI C:=x.1.2.2.1;bif C<(x.1.1.length:Int)then xI x.1.1 C λD=>xI x.1.2.1 C λE=>(FA D E).bind λL=>bif (!L)then av ((false,()),())else xG ((x.1.1,x.1.2.1,(W6 (C+1)),()),())else aQ ((),())
def avn:KY 27 (aW f95):=⟨0,lB 0 ⟨[(0,.lf (.aF .Addr 0)),(1,.lf (.aF .Addr 0)),(5,tI)],[],[]⟩ [(1,gR),(2,fq)] ahz,lp [ahx]⟩
def Rr(C D:aa aJ):ah (Bool):=bif ((C.length:Int) != (D.length:Int))then some false else bE ahz ((C,D,0,()),()) (λE=>some E.1.1) λL=>some true
def avo:=bS [(false,(.sl .Addr)),(false,(.sl .Addr))] bR (bq Rr) 27 [] [avn] func95
def FB(C D:aK):ah (Bool):=bif (C.id != D.id)then some false else bif (C.dm != D.dm)then some false else bif (C.line != D.line)then some false else bif (!(C.write==D.write))then some false else bif (C.data != D.data)then some false else bif (C.at_ != D.at_)then some false else some true
def ahA:=aP Zi bR (bq FB) 35 [] func153
end Go.Proofs.YtnilicojgkhpnaaGreat
