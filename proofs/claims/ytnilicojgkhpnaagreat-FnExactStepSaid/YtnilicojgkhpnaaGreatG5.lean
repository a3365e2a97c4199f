/-
  Functions of the program as plain functions of contents, and that the code computes them. Nothing here is a claim.
-/
import Derived.Test.YtnilicojgkhpnaaGreatVZ
import Derived.Test.YtnilicojgkhpnaaGreatRows
import Derived.Test.YtnilicojgkhpnaaGreatG1
import Derived.Test.YtnilicojgkhpnaaGreatG2
import Derived.Test.YtnilicojgkhpnaaGreatG3
import Derived.Test.YtnilicojgkhpnaaGreatG4
namespace Go.Proofs.YtnilicojgkhpnaaGreat
set_option linter.defProp false
open Go.RowKit Go.Proofs.Tryz
set_option linter.unusedVariables false
set_option maxRecDepth 100000
def Jc(C:cC):ah (cC):=some C
def at1:=aJ [(true,.eX)] [(true,.eX,0)] (bu Jc) 11 [] func324
abbrev agj:=(((aa cC)×af×Int×af)×((aa cC)×af))
def agk(x:agj):ah (agj⊕(((af×af)×((aa cC)×af))⊕Empty)):=letI C:=x.1.2.2.1;bif C<(x.1.1.length:Int)then xI x.1.1 C λD=>(Jc D).bind λE=>xL x.2.1 C λL=>xG ((x.1.1,(),(W6 (C+1)),()),((x.2.1.set C.toNat E),()))else aq (((),()),(x.2.1,()))
def at2:KY 23 (aN f193):=⟨0,lB 0 ⟨[(0,.lf (.aC .eX 0)),(3,.lf (.own 7)),(4,tI)],[(7,.sl .eX 2)],[]⟩ [(2,⟨sk,[(7,.sl .eX 2)],[]⟩)] agk,lp [at1]⟩
def Pv(D:aa cC):ah ((aa cC)):=letI C:=(D.length:Int);if 0 <= C/\C <= C/\C<1073741824 then aW agk ((D,(),0,()),((List.replicate C.toNat (⟨false,0⟩:cC)),())) λE=>some E.2.1 else none
def at3:=bJ [(false,(.sl .eX))] [(false,(.sl .eX),2)] (bu Pv) 23 [] [at2] func193
def Pw(C:bV):ah (bV):=(Pv C.ay).bind λD=>some (⟨D,C.aS⟩:bV)
def at4:=aJ Hx [(true,.gG,2)] (bu Pw) 12 [at3] func54
def Px(C:cP):ah (cP):=(oF C.last).bind λD=>(oF C.bg).bind λE=>some (⟨D,E⟩:cP)
def at5:=aJ [(true,.je)] Hv (bu Px) 13 [yW] func55
def Jd(C:bC):ah (bC):=(oF C.symbols).bind λD=>some (⟨D,C.gx⟩:bC)
def at6:=aJ [(true,.Cell)] [(true,.Cell,2)] (bu Jd) 12 [yW] func325
abbrev agl:=(((aa bC)×af×Int×af)×((aa bC)×af))
def agm(x:agl):ah (agl⊕(((af×af)×((aa bC)×af))⊕Empty)):=letI C:=x.1.2.2.1;bif C<(x.1.1.length:Int)then xI x.1.1 C λD=>(Jd D).bind λE=>xL x.2.1 C λL=>xG ((x.1.1,(),(W6 (C+1)),()),((x.2.1.set C.toNat E),()))else aq (((),()),(x.2.1,()))
def at7:KY 23 (aN f194):=⟨0,lB 0 ⟨[(0,.lf (.aC .Cell 0)),(3,.lf (.own 7)),(4,tI)],[(7,.sl .Cell 4)],[]⟩ [(2,⟨sk,[(7,.sl .Cell 4)],[]⟩)] agm,lp [at6]⟩
def Py(D:aa bC):ah ((aa bC)):=letI C:=(D.length:Int);if 0 <= C/\C <= C/\C<1073741824 then aW agm ((D,(),0,()),((List.replicate C.toNat (⟨[],false⟩:bC)),())) λE=>some E.2.1 else none
def at8:=bJ [(false,(.sl .Cell))] [(false,(.sl .Cell),4)] (bu Py) 23 [] [at7] func194
def Pz(C:cF):ah (cF):=(Py C.cells).bind λD=>(oF C.bh).bind λE=>(oF C.aZ).bind λL=>some (⟨D,E,L⟩:cF)
def at9:=aJ [(true,.Array)] [(true,.Array,4)] (bu Pz) 17 [yW,at8] func56
def PB(C:eg):ah (eg):=(oF C.map).bind λD=>some (⟨C.bT,D⟩:eg)
def aua:=aJ [(true,.jf)] [(true,.jf,2)] (bu PB) 12 [yW] func57
def PC(C:cK):ah (cK):=(oF C.aE).bind λD=>some (⟨D,C.wait,C.dj⟩:cK)
def aub:=aJ Be [(true,.jx,2)] (bu PC) 15 [yW] func58
def Je(C:bI):ah (bI):=(oF C.rows).bind λD=>(oF C.counts).bind λE=>some (⟨D,E,C.cE⟩:bI)
def auc:=aJ Hy [(true,.dV,2)] (bu Je) 16 [yW] func195
abbrev agn:=(((aa bI)×af×Int×af)×((aa bI)×af))
def ago(x:agn):ah (agn⊕(((af×af)×((aa bI)×af))⊕Empty)):=letI C:=x.1.2.2.1;bif C<(x.1.1.length:Int)then xI x.1.1 C λD=>(Je D).bind λE=>xL x.2.1 C λL=>xG ((x.1.1,(),(W6 (C+1)),()),((x.2.1.set C.toNat E),()))else aq (((),()),(x.2.1,()))
def aud:KY 23 (aN f59):=⟨0,lB 0 ⟨[(0,.lf (.aC .dV 0)),(3,.lf (.own 7)),(4,tI)],[(7,.sl .dV 4)],[]⟩ [(2,⟨sk,[(7,.sl .dV 4)],[]⟩)] ago,lp [auc]⟩
def PD(D:aa bI):ah ((aa bI)):=letI C:=(D.length:Int);if 0 <= C/\C <= C/\C<1073741824 then aW ago ((D,(),0,()),((List.replicate C.toNat (⟨[],[],0⟩:bI)),())) λE=>some E.2.1 else none
def aue:=bJ [(false,(.sl .dV))] [(false,(.sl .dV),4)] (bu PD) 23 [] [aud] func59
def Jf(C:aF):ah (aF):=some C
def auf:=aJ [(true,.Addr)] [(true,.Addr,0)] (bu Jf) 14 [] func144
abbrev agp:=(((aa aF)×af×Int×af)×((aa aF)×af))
def agq(x:agp):ah (agp⊕(((af×af)×((aa aF)×af))⊕Empty)):=letI C:=x.1.2.2.1;bif C<(x.1.1.length:Int)then xI x.1.1 C λD=>(Jf D).bind λE=>xL x.2.1 C λL=>xG ((x.1.1,(),(W6 (C+1)),()),((x.2.1.set C.toNat E),()))else aq (((),()),(x.2.1,()))
def aug:KY 23 (aN f61):=⟨0,lB 0 ⟨[(0,.lf (.aC .Addr 0)),(3,.lf (.own 7)),(4,tI)],[(7,.sl .Addr 2)],[]⟩ [(2,⟨sk,[(7,.sl .Addr 2)],[]⟩)] agq,lp [auf]⟩
def PE(D:aa aF):ah ((aa aF)):=letI C:=(D.length:Int);if 0 <= C/\C <= C/\C<1073741824 then aW agq ((D,(),0,()),((List.replicate C.toNat (⟨0,0,0⟩:aF)),())) λE=>some E.2.1 else none
def auh:=bJ [(false,(.sl .Addr))] [(false,(.sl .Addr),2)] (bu PE) 23 [] [aug] func61
def Jg(C:bk):ah (bk):=some C
def aui:=aJ [(true,.cQ)] [(true,.cQ,0)] (bu Jg) 23 [] func143
abbrev agr:=(((aa bk)×af×Int×af)×((aa bk)×af))
def ags(x:agr):ah (agr⊕(((af×af)×((aa bk)×af))⊕Empty)):=letI C:=x.1.2.2.1;bif C<(x.1.1.length:Int)then xI x.1.1 C λD=>(Jg D).bind λE=>xL x.2.1 C λL=>xG ((x.1.1,(),(W6 (C+1)),()),((x.2.1.set C.toNat E),()))else aq (((),()),(x.2.1,()))
def auj:KY 23 (aN f62):=⟨0,lB 0 ⟨[(0,.lf (.aC .cQ 0)),(3,.lf (.own 7)),(4,tI)],[(7,.sl .cQ 2)],[]⟩ [(2,⟨sk,[(7,.sl .cQ 2)],[]⟩)] ags,lp [aui]⟩
def PF(D:aa bk):ah ((aa bk)):=letI C:=(D.length:Int);if 0 <= C/\C <= C/\C<1073741824 then aW ags ((D,(),0,()),((List.replicate C.toNat (⟨0,0,0,false,0,0⟩:bk)),())) λE=>some E.2.1 else none
def auk:=bJ [(false,(.sl .cQ))] [(false,(.sl .cQ),2)] (bu PF) 23 [] [auj] func62
def Jh(C:bM):ah (bM):=some C
def aul:=aJ [(true,.dz)] [(true,.dz,0)] (bu Jh) 11 [] func196
abbrev agt:=(((aa bM)×af×Int×af)×((aa bM)×af))
def agu(x:agt):ah (agt⊕(((af×af)×((aa bM)×af))⊕Empty)):=letI C:=x.1.2.2.1;bif C<(x.1.1.length:Int)then xI x.1.1 C λD=>(Jh D).bind λE=>xL x.2.1 C λL=>xG ((x.1.1,(),(W6 (C+1)),()),((x.2.1.set C.toNat E),()))else aq (((),()),(x.2.1,()))
def aum:KY 23 (aN f63):=⟨0,lB 0 ⟨[(0,.lf (.aC .dz 0)),(3,.lf (.own 7)),(4,tI)],NY,[]⟩ [(2,⟨sk,NY,[]⟩)] agu,lp [aul]⟩
def PG(D:aa bM):ah ((aa bM)):=letI C:=(D.length:Int);if 0 <= C/\C <= C/\C<1073741824 then aW agu ((D,(),0,()),((List.replicate C.toNat (⟨0,0⟩:bM)),())) λE=>some E.2.1 else none
def aun:=bJ [(false,(.sl .dz))] [(false,(.sl .dz),2)] (bu PG) 23 [] [aum] func63
def PI(C:fI):ah (fI):=some C
def auo:=aJ [(true,.jy)] [(true,.jy,0)] (bu PI) 14 [] func64
def PJ(C:dL):ah (dL):=some C
def aup:=aJ [(true,.Power)] [(true,.Power,0)] (bu PJ) 14 [] func65
def PL(C:jJ):ah (jJ):=some C
def auq:=aJ [(true,.mc)] [(true,.mc,0)] (bu PL) 14 [] func66
def Ji(C:bK):ah (bK):=some C
def aur:=aJ [(true,.dG)] [(true,.dG,0)] (bu Ji) 14 [] func197
abbrev agv:=(((aa bK)×af×Int×af)×((aa bK)×af))
def agw(x:agv):ah (agv⊕(((af×af)×((aa bK)×af))⊕Empty)):=letI C:=x.1.2.2.1;bif C<(x.1.1.length:Int)then xI x.1.1 C λD=>(Ji D).bind λE=>xL x.2.1 C λL=>xG ((x.1.1,(),(W6 (C+1)),()),((x.2.1.set C.toNat E),()))else aq (((),()),(x.2.1,()))
def aus:KY 23 (aN f67):=⟨0,lB 0 ⟨[(0,.lf (.aC .dG 0)),(3,.lf (.own 7)),(4,tI)],[(7,.sl .dG 2)],[]⟩ [(2,⟨sk,[(7,.sl .dG 2)],[]⟩)] agw,lp [aur]⟩
def PN(D:aa bK):ah ((aa bK)):=letI C:=(D.length:Int);if 0 <= C/\C <= C/\C<1073741824 then aW agw ((D,(),0,()),((List.replicate C.toNat (⟨0,0,0⟩:bK)),())) λE=>some E.2.1 else none
def aut:=bJ NW [(false,(.sl .dG),2)] (bu PN) 23 [] [aus] func67
def PO(C:aD):ah (aD):=some C
def auu:=aJ [(true,.Command)] DJ (bu PO) 17 [] func326
def Jj(C:cz):ah (cz):=(PO C.cmd).bind λD=>some (⟨C.at_,D⟩:cz)
def auv:=aJ [(true,.Event)] [(true,.Event,0)] (bu Jj) 12 [auu] func198
abbrev agx:=(((aa cz)×af×Int×af)×((aa cz)×af))
def agy(x:agx):ah (agx⊕(((af×af)×((aa cz)×af))⊕Empty)):=letI C:=x.1.2.2.1;bif C<(x.1.1.length:Int)then xI x.1.1 C λD=>(Jj D).bind λE=>xL x.2.1 C λL=>xG ((x.1.1,(),(W6 (C+1)),()),((x.2.1.set C.toNat E),()))else aq (((),()),(x.2.1,()))
def auw:KY 23 (aN f68):=⟨0,lB 0 ⟨[(0,.lf (.aC .Event 0)),(3,.lf (.own 7)),(4,tI)],[(7,.sl .Event 2)],[]⟩ [(2,⟨sk,[(7,.sl .Event 2)],[]⟩)] agy,lp [auv]⟩
def PR(D:aa cz):ah ((aa cz)):=letI C:=(D.length:Int);if 0 <= C/\C <= C/\C<1073741824 then aW agy ((D,(),0,()),((List.replicate C.toNat (⟨0,⟨0,0,0,0⟩⟩:cz)),())) λE=>some E.2.1 else none
def auy:=bJ [(false,(.sl .Event))] [(false,(.sl .Event),2)] (bu PR) 23 [] [auw] func68
def Jk(C:cG):ah (cG):=some C
def auz:=aJ [(true,.fo)] [(true,.fo,0)] (bu Jk) 17 [] func199
abbrev agz:=(((aa cG)×af×Int×af)×((aa cG)×af))
def agA(x:agz):ah (agz⊕(((af×af)×((aa cG)×af))⊕Empty)):=letI C:=x.1.2.2.1;bif C<(x.1.1.length:Int)then xI x.1.1 C λD=>(Jk D).bind λE=>xL x.2.1 C λL=>xG ((x.1.1,(),(W6 (C+1)),()),((x.2.1.set C.toNat E),()))else aq (((),()),(x.2.1,()))
def auA:KY 23 (aN f69):=⟨0,lB 0 ⟨[(0,.lf (.aC .fo 0)),(3,.lf (.own 7)),(4,tI)],[(7,.sl .fo 2)],[]⟩ [(2,⟨sk,[(7,.sl .fo 2)],[]⟩)] agA,lp [auz]⟩
def PS(D:aa cG):ah ((aa cG)):=letI C:=(D.length:Int);if 0 <= C/\C <= C/\C<1073741824 then aW agA ((D,(),0,()),((List.replicate C.toNat (⟨0,0,0,0⟩:cG)),())) λE=>some E.2.1 else none
def auB:=bJ [(false,(.sl .fo))] [(false,(.sl .fo),2)] (bu PS) 23 [] [auA] func69
def BI(C:av):ah (av):=(Pp C.config).bind λD=>(Pu C.box).bind λE=>(Pw C.aX).bind λL=>(Px C.ready).bind λO=>(Pz C.array).bind λT=>(PB C.spare).bind λU=>(PC C.aL).bind λY=>(PD C.bx).bind λZ=>(oF C.guard).bind λy9=>(PE C.pending).bind λfW=>(PF C.queue).bind λdQ=>(PG C.shares).bind λfK=>(PI C.drain).bind λfX=>(PJ C.aS).bind λiB=>(PL C.cu).bind λgD=>(PN C.errors).bind λjq=>(PR C.trace).bind λfT=>(PS C.cA).bind λiV=>some (⟨D,E,C.now,L,O,T,U,Y,Z,y9,fW,dQ,fK,fX,iB,gD,jq,fT,iV⟩:av)
def auC:=aJ pN [(true,.cx,4)] (bu BI) 80 [atW,at0,at4,at5,at9,aua,aub,aue,yW,auh,auk,aun,auo,aup,auq,aut,auy,auB] func10
def Ef(C:eE):ah (eE):=bif xZ C.weights then some (⟨C.dR,C.cap,C.eI,C.low,C.high,(xA C.weights),C.dO⟩:eE)else none
def agB:=aJ Hw [(true,.kj,2)] (bu Ef) 9 [] func226
def Jl(C:fP):ah (fP):=(Ef C.bz).bind λD=>(Ef C.next).bind λE=>some (⟨D,E,C.waits⟩:fP)
def agC:=aJ [(true,.iK)] [(true,.iK,2)] (bu Jl) 12 [agB] func200
def Eg(C:bV):ah (bV):=bif xZ C.ay then some (⟨(xA C.ay),C.aS⟩:bV)else none
def agD:=aJ Hx [(true,.gG,2)] (bu Eg) 9 [] func201
def Eh(C:cP):ah (cP):=bif xZ C.last then bif xZ C.bg then some (⟨(xA C.last),(xA C.bg)⟩:cP)else none else none
def agE:=aJ [(true,.je)] Hv (bu Eh) 12 [] func202
def PT(C:bC):ah (bC):=bif xZ C.symbols then some (⟨(xA C.symbols),C.gx⟩:bC)else none
def auD:=aJ [(true,.Cell)] [(true,.Cell,2)] (bu PT) 9 [] func286
def auE:bE:=⟨[(2,.aG 2 0),(3,.aG 3 0),(16,.lf (.aC .Cell 0)),(17,tI),(18,tI)],adB,[]⟩
def auF:aa (Nat×bE):=[(2,⟨[(2,.aG 2 0),(3,.aG 3 0)],adB,[]⟩)]
abbrev agF:=((af×af×(aa bC)×Int×Int×af)×((af×af×af×af)×(af×af×af×af)×(aa bC)×(aa Int)×(aa Int)×(aa bC)×(aa Int)×(aa Int)×af))
def Jm(x:agF):ah (agF⊕(((af×af×af)×((af×af×af×af)×(af×af×af×af)×(aa bC)×(aa Int)×(aa Int)×(aa bC)×(aa Int)×(aa Int)×af))⊕Empty)):=letI E:=x.2.2.2;letI D:=x.1.2.2;letI L:=((),(),(),());letI C:=E.2.2;bif D.2.2.1<D.2.1 then xI D.1 D.2.2.1 λT=>(PT T).bind λO=>bif bD (C.2.1.length+[O].length)then xG (((),(),D.1,D.2.1,(W6 (D.2.2.1+1)),()),(L,L,E.1,E.2.1,C.1,(C.2.1++[O]),C.2.2.1,C.2.2.2.1,()))else none else aq (((),(),()),(L,L,E.1,E.2.1,C.1,C.2.1,C.2.2.1,C.2.2.2.1,()))
def auG:KY 31 (aN f203):=⟨0,lB 0 auE auF Jm,lp [auD]⟩
def Ei(C:cF):ah (cF):=bif xZ C.bh then bif xZ C.aZ then aW Jm (((),(),C.cells,(C.cells.length:Int),0,()),(((),(),(),()),((),(),(),()),([]:aa bC),([]:aa Int),([]:aa Int),([]:aa bC),(xA C.bh),(xA C.aZ),())) λE=>letI D:=E.2.2.2.2.2.2;some (⟨D.1,D.2.1,D.2.2.1⟩:cF)else none else none
def agG:=bJ [(true,.Array)] [(true,.Array,4)] (bu Ei) 31 [] [auG] func203
def agH(C:aa Int):ah ((aa Int)):=bif ir C then none else bif bD (([]:aa Int).length+C.length)then some (([]:aa Int)++C)else none
def PU(C:aa Int):ah ((aa Int)):=bif ir C then some []else agH C
def agI:gI:=fV [(false,(.sl .int))] [(false,(.sl .int),2)] (λx=>PU x.1)
def auH:enters Tryz.prog 204/\gu Tryz.prog 204 agI:=A9 8 [] [] func204 trivial pL (t:=.int) (g:=2) (F:=agH) λx=>by kernel_rfl
def BJ(C:cK):ah (cK):=bif xZ C.aE then some (⟨(xA C.aE),C.wait,C.dj⟩:cK)else none
def Xj:=aJ Be [(true,.jx,2)] (bu BJ) 9 [] func205
def Ej(C:bI):ah (bI):=bif xZ C.rows then bif xZ C.counts then some (⟨(xA C.rows),(xA C.counts),C.cE⟩:bI)else none else none
def agJ:=aJ Hy [(true,.dV,2)] (bu Ej) 14 [] func206
def agK(C:aa aF):ah ((aa aF)):=bif ir C then none else bif bD (([]:aa aF).length+C.length)then some (([]:aa aF)++C)else none
def Xk(C:aa aF):ah ((aa aF)):=bif ir C then some []else agK C
def agL:gI:=fV [(false,(.sl .Addr))] [(false,(.sl .Addr),2)] (λx=>Xk x.1)
def auI:enters Tryz.prog 207/\gu Tryz.prog 207 agL:=A9 8 [] [] func207 trivial pL (t:=.Addr) (g:=2) (F:=agK) λx=>by kernel_rfl
def agM(C:aa bk):ah ((aa bk)):=bif ir C then none else bif bD (([]:aa bk).length+C.length)then some (([]:aa bk)++C)else none
def Xl(C:aa bk):ah ((aa bk)):=bif ir C then some []else agM C
def agN:gI:=fV [(false,(.sl .cQ))] [(false,(.sl .cQ),2)] (λx=>Xl x.1)
def auJ:enters Tryz.prog 208/\gu Tryz.prog 208 agN:=A9 8 [] [] func208 trivial pL (t:=.cQ) (g:=2) (F:=agM) λx=>by kernel_rfl
def agO(C:aa bM):ah ((aa bM)):=bif ir C then none else bif bD (([]:aa bM).length+C.length)then some (([]:aa bM)++C)else none
def Xm(C:aa bM):ah ((aa bM)):=bif ir C then some []else agO C
def agP:gI:=fV [(false,(.sl .dz))] [(false,(.sl .dz),2)] (λx=>Xm x.1)
def auK:enters Tryz.prog 209/\gu Tryz.prog 209 agP:=A9 8 [] [] func209 trivial pL (t:=.dz) (g:=2) (F:=agO) λx=>by kernel_rfl
end Go.Proofs.YtnilicojgkhpnaaGreat
