/-
  Functions of the program as plain functions of contents, and that the code computes them. Nothing here is a claim.
-/
import Derived.Test.YtnilicojgkhpnaaGreatVZ
import Derived.Test.YtnilicojgkhpnaaGreatRows
import Derived.Test.YtnilicojgkhpnaaGreatG1
import Derived.Test.YtnilicojgkhpnaaGreatG2
import Derived.Test.YtnilicojgkhpnaaGreatG3
import Derived.Test.YtnilicojgkhpnaaGreatG4
import Derived.Test.YtnilicojgkhpnaaGreatG5
namespace Go.Proofs.YtnilicojgkhpnaaGreat
set_option linter.defProp false
open Go.RowKit Go.Proofs.Tryz
set_option linter.unusedVariables false
set_option maxRecDepth 100000
def agQ(C:aa bK):ah ((aa bK)):=bif ir C then none else bif bD (([]:aa bK).length+C.length)then some (([]:aa bK)++C)else none
def Xn(C:aa bK):ah ((aa bK)):=bif ir C then some []else agQ C
def agR:gI:=fV [(false,(.sl .dG))] [(false,(.sl .dG),2)] (λx=>Xn x.1)
def auL:enters Tryz.prog 210/\gu Tryz.prog 210 agR:=A9 8 [] [] func210 trivial pL (t:=.dG) (g:=2) (F:=agQ) λx=>by kernel_rfl
def agS(C:aa cz):ah ((aa cz)):=bif ir C then none else bif bD (([]:aa cz).length+C.length)then some (([]:aa cz)++C)else none
def Xo(C:aa cz):ah ((aa cz)):=bif ir C then some []else agS C
def agT:gI:=fV [(false,(.sl .Event))] [(false,(.sl .Event),2)] (λx=>Xo x.1)
def auM:enters Tryz.prog 211/\gu Tryz.prog 211 agT:=A9 8 [] [] func211 trivial pL (t:=.Event) (g:=2) (F:=agS) λx=>by kernel_rfl
def agU(C:aa cG):ah ((aa cG)):=bif ir C then none else bif bD (([]:aa cG).length+C.length)then some (([]:aa cG)++C)else none
def Xp(C:aa cG):ah ((aa cG)):=bif ir C then some []else agU C
def agV:gI:=fV [(false,(.sl .fo))] [(false,(.sl .fo),2)] (λx=>Xp x.1)
def auN:enters Tryz.prog 212/\gu Tryz.prog 212 agV:=A9 8 [] [] func212 trivial pL (t:=.fo) (g:=2) (F:=agU) λx=>by kernel_rfl
def auO:bE:=⟨[(1,.aG 1 0),(2,.aG 2 0),(3,.aG 3 0),(36,.lf (.aC .dV 0)),(37,tI),(38,tI)],zz2,NP⟩
def auP:aa (Nat×bE):=[(2,⟨[(1,.aG 1 0),(2,.aG 2 0),(3,.aG 3 0)],zz2,NP⟩)]
abbrev agW:=((af×af×af×(aa bI)×Int×Int×af)×(av×av×(Int×Int×Int×Int×Int×Int×Int×Int×Int×Int×Int×Int×Int×Int×Int×Int×Int×Int×Int×Int×Int×Int×Bool×Int×Int×Int×Int×Int×Int×Int×Int×Int×Int×af×Int×Int×Int×Int×Int×Int×Int×af×Int×Int×Bool×Int×af×Int×af×af×af×af×af×Int×af×af×Int×Bool×af×(aa Int)×(aa aF)×(aa bk)×(aa bM)×Bool×Int×Int×Int×Int×Int×Int×Int×Int×(aa bK)×(aa cz)×(aa cG)×af)×(aa Int)×(aa Int)×(aa cC)×(aa Int)×(aa Int)×(aa bC)×(aa Int)×(aa Int)×(aa Int)×(aa Int)×(aa bI)×af))
def El(x:agW):ah (agW⊕(((af×af×af×af)×(av×av×(Int×Int×Int×Int×Int×Int×Int×Int×Int×Int×Int×Int×Int×Int×Int×Int×Int×Int×Int×Int×Int×Int×Bool×Int×Int×Int×Int×Int×Int×Int×Int×Int×Int×af×Int×Int×Int×Int×Int×Int×Int×af×Int×Int×Bool×Int×af×Int×af×af×af×af×af×Int×af×af×Int×Bool×af×(aa Int)×(aa aF)×(aa bk)×(aa bM)×Bool×Int×Int×Int×Int×Int×Int×Int×Int×(aa bK)×(aa cz)×(aa cG)×af)×(aa Int)×(aa Int)×(aa cC)×(aa Int)×(aa Int)×(aa bC)×(aa Int)×(aa Int)×(aa Int)×(aa Int)×(aa bI)×af))⊕Empty)):=letI E:=x.1.2.2.2;letI C:=x.2.2.2.2;letI L:=C.2.2.2.2;letI D:=L.2.2.2;bif E.2.2.1<E.2.1 then xI E.1 E.2.2.1 λT=>(Ej T).bind λO=>bif bD (D.2.2.2.1.length+[O].length)then xG (((),(),(),E.1,E.2.1,(W6 (E.2.2.1+1)),()),(x.2.1,x.2.2.1,x.2.2.2.1,C.1,C.2.1,C.2.2.1,C.2.2.2.1,L.1,L.2.1,L.2.2.1,D.1,D.2.1,D.2.2.1,(D.2.2.2.1++[O]),()))else none else aq (((),(),(),()),(x.2.1,x.2.2.1,x.2.2.2.1,C.1,C.2.1,C.2.2.1,C.2.2.2.1,L.1,L.2.1,L.2.2.1,D.1,D.2.1,D.2.2.1,D.2.2.2.1,()))
def auQ:KY 79 (aN f70):=⟨0,lB 0 auO auP El,lp [agJ]⟩
def Jo(C:av):ah (av):=(Jl C.box).bind λD=>(Eg C.aX).bind λy2=>(Eh C.ready).bind λy3=>(Ei C.array).bind λy4=>(PU C.spare.map).bind λy5=>(BJ C.aL).bind λy6=>aW El (((),(),(),C.bx,(C.bx.length:Int),0,()),((⟨⟨⟨0,0,0,0⟩,⟨0,0,0,0,0,0,0,0,0,0,0,0,0,0,0,0,0⟩,⟨0,false⟩,0,0,0,⟨0,0⟩⟩,⟨⟨0,0,0,0,0,([]:aa Int),⟨0,0⟩⟩,⟨0,0,0,0,0,([]:aa Int),⟨0,0⟩⟩,false⟩,0,⟨([]:aa cC),0⟩,⟨([]:aa Int),([]:aa Int)⟩,⟨([]:aa bC),([]:aa Int),([]:aa Int)⟩,⟨0,([]:aa Int)⟩,⟨([]:aa Int),0,false⟩,([]:aa bI),([]:aa Int),([]:aa aF),([]:aa bk),([]:aa bM),⟨false,0,0⟩,⟨0,0,0⟩,⟨0,0,0⟩,([]:aa bK),([]:aa cz),([]:aa cG)⟩:av),C,(C.config.aB.cg,C.config.aB.ay,C.config.aB.rows,C.config.aB.aO,C.config.bQ.iG,C.config.bQ.rp,C.config.bQ.fO,C.config.bQ.kS,C.config.bQ.iH,C.config.bQ.iI,C.config.bQ.kT,C.config.bQ.kU,C.config.bQ.hD,C.config.bQ.wr,C.config.bQ.kV,C.config.bQ.kW,C.config.bQ.n6,C.config.bQ.kX,C.config.bQ.lY,C.config.bQ.xp,C.config.bQ.xs,C.config.mapping.order,C.config.mapping.hash,C.config.bT,C.config.interval,C.config.gy,C.config.dg.bh,C.config.dg.aZ,D.bz.dR,D.bz.cap,D.bz.eI,D.bz.low,D.bz.high,(),D.bz.dO.down,D.bz.dO.sleep,D.next.dR,D.next.cap,D.next.eI,D.next.low,D.next.high,(),D.next.dO.down,D.next.dO.sleep,D.waits,C.now,(),y2.aS,(),(),(),(),(),C.spare.bT,(),(),y6.wait,y6.dj,(),C.guard,C.pending,C.queue,C.shares,C.drain.on,C.drain.low,C.drain.high,C.aS.state,C.aS.since,C.aS.idle,C.cu.next,C.cu.every,C.cu.wait,C.errors,C.trace,C.cA,()),D.bz.weights,D.next.weights,y2.ay,y3.last,y3.bg,y4.cells,y4.bh,y4.aZ,y5,y6.aE,([]:aa bI),())) λgW=>letI L:=gW.2.2.1;letI E:=gW.2.2.2;letI u16:=E.1.2.2;letI u9:=E.2.2.2.2.2;letI wq:=u9.2.2.2;letI u7:=u16.2.2.2;letI wo:=u7.2.2.2;letI u2:=wo.2.2.2;letI T:=u2.2.2.2;letI U:=T.2.2.2.2;letI Y:=U.2.2.2.2;letI Z:=Y.2.2.2.2;letI lM:=Z.2.2.2.2;letI yG:=lM.2.2.2.2;letI O:=yG.2.2;letI u8:=O.2.2.2.2.2.2;letI Bg:=u8.2.2.2.2.2.2.2.2.2.2.2;letI u1:=Bg.2.2.2;letI u6:=u1.2.2.2.2.2.2.2;letI wD:=u6.2.2.2.2;(PU L.guard).bind λdQ=>(Xk L.pending).bind λfK=>(Xl L.queue).bind λfX=>(Xm L.shares).bind λiB=>(Xn L.errors).bind λgD=>(Xo L.trace).bind λjq=>(Xp L.cA).bind λfT=>some (⟨⟨⟨E.1.1,E.1.2.1,u16.1,u16.2.1⟩,⟨u16.2.2.1,u7.1,u7.2.1,u7.2.2.1,wo.1,wo.2.1,wo.2.2.1,u2.1,u2.2.1,u2.2.2.1,T.1,T.2.1,T.2.2.1,T.2.2.2.1,U.1,U.2.1,U.2.2.1⟩,⟨U.2.2.2.1,Y.1⟩,Y.2.1,Y.2.2.1,Y.2.2.2.1,⟨Z.1,Z.2.1⟩⟩,⟨⟨Z.2.2.1,Z.2.2.2.1,lM.1,lM.2.1,lM.2.2.1,E.2.1,⟨yG.1,yG.2.1⟩⟩,⟨O.1,O.2.1,O.2.2.1,O.2.2.2.1,O.2.2.2.2.1,E.2.2.1,⟨u8.1,u8.2.1⟩⟩,u8.2.2.1⟩,u8.2.2.2.1,⟨E.2.2.2.1,u8.2.2.2.2.2.1⟩,⟨E.2.2.2.2.1,u9.1⟩,⟨u9.2.1,u9.2.2.1,wq.1⟩,⟨Bg.1,wq.2.1⟩,⟨wq.2.2.1,u1.1,u1.2.1⟩,wq.2.2.2.1,dQ,fK,fX,iB,⟨u6.1,u6.2.1,u6.2.2.1⟩,⟨u6.2.2.2.1,wD.1,wD.2.1⟩,⟨wD.2.2.1,wD.2.2.2.1,wD.2.2.2.2.1⟩,gD,jq,fT⟩:av)
def agX:=bJ pN [(true,.cx,4)] (bu Jo) 79 [agC,agD,agE,agG,⟨204,.p agI,auH⟩,Xj,⟨207,.p agL,auI⟩,⟨208,.p agN,auJ⟩,⟨209,.p agP,auK⟩,⟨210,.p agR,auL⟩,⟨211,.p agT,auM⟩,⟨212,.p agV,auN⟩] [auQ] func70
def bX(C D E:Int):ah (Bool):=bif C >= D then some (C <= E)else some false
def dD:=aJ [(false,.int),(false,.int),(false,.int)] bH (eZ bX) 15 [] func133
def qO(C:aP):ah (Bool):=(bX C.cg 1 2).bind λD=>bif D then (bX C.ay 1 4).bind λE=>bif E then (bX C.rows 2 16).bind λL=>bif L then (bX C.aO 1 8).bind λO=>some O else some false else some false else some false
def wE:=aJ Bf bH (bu qO) 21 [dD] func279
def mI(C:aP):ah (Int):=(qO C).bind λD=>bif (!D)then some 0 else some (W6 (C.cg*C.ay))
def pQ:=aJ Bf bS (bu mI) 11 [wE] func227
def uz(C:aP):ah (Int):=(mI C).bind λD=>some (W6 ((W6 (D*C.rows))*C.aO))
def PW:=aJ Bf bS (bu uz) 11 [pQ] func81
abbrev agY:=((Int×af×af×af×Int×Int×af)×((Int×Int×Int×Int×af)×(Int×af×af)×(Int×af×af)×(aa Int)×(aa Int)×af))
def Em(x:agY):ah (agY⊕(((Int×af×af×af×Int×af)×((Int×Int×Int×Int×af)×(Int×af×af)×(Int×af×af)×(aa Int)×(aa Int)×af))⊕Empty)):=letI C:=x.2.2.2;letI D:=x.1.2.2.2.2;bif D.2.1<(W6 (x.2.1.2.2.1-x.1.1))then bif bD (C.2.2.1.length+([D.2.1]:aa Int).length)then xG ((x.1.1,(),(),(),D.1,(W6 (D.2.1+1)),()),(x.2.1,x.2.2.1,C.1,C.2.1,(C.2.2.1++([D.2.1]:aa Int)),()))else none else aq ((x.1.1,(),(),(),D.1,()),(x.2.1,x.2.2.1,C.1,C.2.1,C.2.2.1,()))
def auR:KY 48 (pK (aN f272) 0):=⟨2,lB 2 ⟨[(1,tI),(2,.aG 2 0),(4,.aG 4 0),(6,.aG 6 0),(7,tI),(8,tI)],adz,[]⟩ [(4,Wl)] Em,lp []⟩
abbrev agZ:=((Int×af×af×af×Int×af)×((Int×Int×Int×Int×af)×(Int×af×af)×(Int×af×af)×(aa Int)×(aa Int)×af))
def Jp(x:agZ):ah (agZ⊕(((af×af×af)×((Int×af×af)×(Int×af×af)×(aa Int)×(aa Int)×af))⊕Empty)):=letI D:=x.2.2.2;(mI (⟨x.2.1.1,x.2.1.2.1,x.2.1.2.2.1,x.2.1.2.2.2.1⟩:aP)).bind λE=>bif x.1.2.2.2.2.1<E then aW Em ((x.1.1,(),(),(),x.1.2.2.2.2.1,0,()),(x.2.1,x.2.2.1,D.1,D.2.1,D.2.2.1,())) λC=>xG ((C.1.1,(),(),(),(W6 (C.1.2.2.2.2.1+1)),()),(C.2.1,C.2.2.1,C.2.2.2.1,C.2.2.2.2.1,C.2.2.2.2.2.1,()))else aq (((),(),()),(x.2.2.1,D.1,D.2.1,D.2.2.1,()))
def auS:KY 48 (aN f272):=⟨0,lB 0 Wl [(2,adH)] Jp,lq [pQ] [auR]⟩
def Jq(C:aP)(D:Int):ah (eg×Bool):=letI E:=some ((⟨0,[]⟩:eg),false);(qO C).bind λO=>bif (!O)then E else (bX D 0 2).bind λT=>bif (!T)then E else bif (W6 (C.rows-D))<2 then E else aW Jp ((D,(),(),(),0,()),((C.cg,C.ay,C.rows,C.aO,()),(0,(),()),(D,(),()),([]:aa Int),([]:aa Int),())) λL=>some ((⟨L.2.2.1.1,L.2.2.2.2.1⟩:eg),true)
def ag0:=bJ Hs [(true,.jf,2),(false,.bool,0)] (aY Jq) 48 [dD,wE] [auS] func272
abbrev ag1:=((af×af×Int×Int×af)×(cI×(aa Int)×af))
def En(x:ag1):ah (ag1⊕(((Bool×af)×(af))⊕(((af×af)×(cI×af))⊕Empty))):=letI C:=x.1.2.2;bif C.2.1<C.1 then xL x.2.2.1 C.2.1 λD=>(bX D 1 64).bind λE=>bif (!E)then aq ((false,()),())else xG (((),(),C.1,(W6 (C.2.1+1)),()),(x.2.1,x.2.2.1,()))else aM (((),()),(x.2.1,()))
def auT:KY 75 (aN f375):=⟨0,lB 0 ⟨[(1,.aG 1 0),(39,.lf (.own 39)),(40,tI),(41,tI)],[(1,.st .iJ),(39,.sl .int 2)],[]⟩ [(1,mH),(2,aed)] En,lp [dD]⟩
def Eo(C:cI):ah (Bool):=letI E:=([C.iG,C.rp,C.fO,C.kS,C.iH,C.iI,C.kT,C.kU,C.hD,C.wr,C.kV,C.kW,C.n6,C.kX,C.lY,C.xp,C.xs]:aa Int);br En (((),(),(E.length:Int),0,()),(C,E,())) (λL=>some L.1.1) λO=>letI D:=O.2.1;bif D.iG <= D.fO then bif D.kS <= D.iH then bif D.kT <= D.kU then some (D.kV <= D.kW)else some false else some false else some false
def Xq:=bJ DK bH (bu Eo) 75 [] [auT] func375
def Jr(C:iF):ah (Bool):=(bX C.order 0 2).bind λD=>some D
def ag2:=aJ [(true,.lZ)] bH (bu Jr) 6 [dD] func376
def wF(C:cI):ah (Int):=(Eo C).bind λD=>bif (!D)then some 0 else some (W6 (2*(W6 ((W6 ((W6 ((W6 ((W6 ((W6 ((W6 ((W6 ((W6 (C.lY+C.xp))+C.fO))+C.wr))+C.hD))+C.rp))+C.kX))+C.iG))+(W6 (8*C.iH))))+16))))
def auU:=aJ DK bS (bu wF) 35 [Xq] func377
def PX(C:gp):ah (Bool):=(Jq C.aB C.bT).bind λD=>(qO C.aB).bind λE=>bif E then (Eo C.bQ).bind λL=>bif L then (Jr C.mapping).bind λO=>bif O then bif D.2 then (wF C.bQ).bind λT=>(bX C.interval T 10000).bind λU=>bif U then (bX C.gy 1 16).bind λY=>bif Y then (bX C.dg.bh (W6 (6*C.interval)) 100000).bind λZ=>bif Z then (bX C.dg.aZ 0 100000).bind λy9=>some y9 else some false else some false else some false else some false else some false else some false else some false
def auV:=aJ [(true,.Config)] bH (bu PX) 57 [dD,ag0,wE,Xq,ag2,auU] func281
abbrev ag3:=(((aa bM)×(aa bM)×Int×Int×af)×(af))
def Js(x:ag3):ah (ag3⊕(((Bool×af)×(af))⊕((((aa bM)×af)×(af))⊕Empty))):=letI C:=x.1.2.2;bif C.2.1<C.1 then xI x.1.2.1 C.2.1 λD=>(bX D.weight 1 9).bind λE=>bif (!E)then aq ((false,()),())else (bX D.dU 0 D.weight).bind λL=>bif (!L)then aq ((false,()),())else xG ((x.1.1,x.1.2.1,C.1,(W6 (C.2.1+1)),()),())else aM ((x.1.1,()),())
def auW:KY 27 (aN f220):=⟨0,lB 0 ⟨[(0,.lf (.aC .dz 0)),(5,.lf (.aC .dz 0)),(6,tI),(7,tI)],[],[]⟩ [(1,mH),(2,aeh)] Js,lp [dD]⟩
def Ep(C:aa bM):ah (Bool):=br Js ((C,C,(C.length:Int),0,()),()) (λD=>some D.1.1) λE=>(bX (E.1.1.length:Int) 1 4).bind λL=>some L
def Xr:=bJ [(false,(.sl .dz))] bH (bu Ep) 27 [dD] [auW] func220
abbrev ag4:=((af×(aa Int)×Int×Int×af)×((aa bM)×af))
def Jt(x:ag4):ah (ag4⊕(((af×af)×((aa bM)×af))⊕Empty)):=letI C:=x.1.2.2;bif C.2.1<C.1 then xI x.1.2.1 C.2.1 λD=>letI E:=([(⟨D,D⟩:bM)]:aa bM);bif bD (x.2.1.length+E.length)then xG (((),x.1.2.1,C.1,(W6 (C.2.1+1)),()),((x.2.1++E),()))else none else aq (((),()),(x.2.1,()))
def auX:KY 25 (aN f79):=⟨0,lB 0 ⟨[(4,.lf (.own 7)),(8,.lf (.aC .int 0)),(9,tI),(10,tI)],NY,[]⟩ [(2,⟨[(4,.lf (.own 7))],NY,[]⟩)] Jt,lp []⟩
def yX(C:aa Int):ah ((aa bM)×Bool):=aW Jt (((),C,(C.length:Int),0,()),(([]:aa bM),())) λD=>(Ep D.2.1).bind λE=>bif (!E)then some ([],false)else some (D.2.1,true)
def ag5:=bJ lK [(false,(.sl .dz),2),(false,.bool,0)] (bu yX) 25 [Xr] [auX] func79
def BM(C:fI):ah (Bool):=bif C.low >= 0 then bif C.low<C.high then some (C.high <= 12)else some false else some false
def PY:=aJ [(true,.jy)] bH (bu BM) 18 [] func221
def Ju(C:jw):ah (Bool):=(bX C.down 1 10000).bind λD=>bif D then bif C.sleep > C.down then some (C.sleep <= 20000)else some false else some false
def ag6:=aJ [(true,.mb)] bH (bu Ju) 18 [dD] func378
def PZ(C:eE):ah (Bool):=(yX C.weights).bind λE=>letI D:=(bX C.cap 0 100000).bind λL=>bif L then (bX C.eI 3 1000).bind λO=>bif O then (BM (⟨false,C.low,C.high⟩:fI)).bind λT=>bif T then bif ((C.weights.length:Int)==4)then bif E.2 then (Ju C.dO).bind λU=>some U else some false else some false else some false else some false else some false;bif (C.dR==0)then D else bif (C.dR==1)then D else some false
def auY:=aJ Hw bH (bu PZ) 51 [ag5,dD,PY,ag6] func282
def Er(C:Int):ah (Int):=(bX C 3 1000).bind λD=>bif (!D)then some 0 else some (W6 ((W6 (2*C))+2))
def auZ:=aJ jX bS (bu Er) 9 [dD] func283
def uA(C:gp)(D:eE):ah (Bool):=letI E:=W6 (C.bQ.fO+C.bQ.rp);(PX C).bind λL=>bif L then (PZ D).bind λO=>bif O then (Er D.eI).bind λT=>bif (W6 (T+2)) <= C.dg.aZ then if E=0 then none else some ((W6 ((W6 (C.gy+1))*D.eI)) > (W6 ((W6 ((W6 (5*C.interval)).tdiv E))+2)))else some false else some false else some false
def au0:=aJ [(true,.Config),(true,.kj)] bH (aY uA) 42 [auV,auY,auZ] func150
abbrev ag7:=((af×(aa cC)×Int×Int×af)×((aa Int)×af))
def Es(x:ag7):ah (ag7⊕(((af×af)×((aa Int)×af))⊕Empty)):=letI C:=x.1.2.2.2.1;letI D:=((),x.1.2.1,x.1.2.2.1,(W6 (C+1)),());bif C<x.1.2.2.1 then xI x.1.2.1 C λE=>bif E.open_ then bif bD (x.2.1.length+([C]:aa Int).length)then xG (D,((x.2.1++([C]:aa Int)),()))else none else xG (D,(x.2.1,()))else aq (((),()),(x.2.1,()))
def au1:KY 23 (aN f327):=⟨0,lB 0 ⟨[(3,.lf (.own 6)),(8,.lf (.aC .eX 0)),(9,tI),(10,tI)],[(6,.sl .int 2)],[]⟩ [(2,ad8)] Es,lp []⟩
def yY(C:bV):ah ((aa Int)):=aW Es (((),C.ay,(C.ay.length:Int),0,()),(([]:aa Int),())) λD=>some D.2.1
def P0:=bJ Hx jW (bu yY) 23 [] [au1] func327
abbrev ag8:=((af×af×(aa cC)×Int×Int×af)×((Int×Int×Int×Int×af)×((aa cC)×Int×af)×af))
def Jv(x:ag8):ah (ag8⊕(((Bool×af)×(af))⊕(((af×af)×(((aa cC)×Int×af)×af))⊕Empty))):=letI C:=x.1.2.2;letI E:=xG (((),(),C.1,C.2.1,(W6 (C.2.2.1+1)),()),(x.2.1,x.2.2.1,()));bif C.2.2.1<C.2.1 then xI C.1 C.2.2.1 λD=>(bX D.row 0 (W6 (x.2.1.2.2.1-1))).bind λL=>bif (!L)then aq ((false,()),())else bif (!D.open_)then bif (D.row != 0)then aq ((false,()),())else E else E else aM (((),()),(x.2.2.1,()))
def au2:KY 58 (aN f213):=⟨0,lB 0 ⟨[(2,.aG 2 0),(3,.aG 3 0),(25,.lf (.aC .eX 0)),(26,tI),(27,tI)],[(2,.az fl),(3,.az yE)],[]⟩ [(1,fJ),(2,⟨[(3,.aG 3 0)],[(3,.az yE)],[]⟩)] Jv,lp [dD]⟩
def Jw(C:aP)(D:bV):ah (Bool):=(qO C).bind λL=>bif (!L)then some false else (mI C).bind λO=>bif ((D.ay.length:Int) != O)then some false else (bX D.aS 0 2).bind λT=>bif (!T)then some false else br Jv (((),(),D.ay,(D.ay.length:Int),0,()),((C.cg,C.ay,C.rows,C.aO,()),(D.ay,D.aS,()),())) (λU=>some U.1.1) λE=>bif (E.2.1.2.1 != 2)then some true else (yY (⟨E.2.1.1,E.2.1.2.1⟩:bV)).bind λY=>some ((Y.length:Int)==0)
def ag9:=bJ [(true,.en),(true,.gG)] bH (aY Jw) 58 [dD,pQ,wE,P0] [au2] func213
def wG(C:Int):ah (Bool):=(bX C 1 5).bind λD=>some D
def P1:=aJ jX bH (bu wG) 5 [dD] func413
def BN(O:aP)(L:Int):ah (aD×Bool):=letI C:=W6 (L.tdiv 9);letI D:=W6 ((L.tmod 9)+1);(mI O).bind λE=>bif C<E then (wG D).bind λT=>some ((⟨D,C,0,0⟩:aD),((decide (C<E))==T))else (wG D).bind λU=>some ((⟨D,0,0,0⟩:aD),((decide (C<E))==U))
def aha:=aJ Hs [(true,.Command,0),(false,.bool,0)] (aY BN) 27 [pQ,P1] func328
abbrev ahb:=((af×af×(aa Int)×Int×Int×af)×((Int×Int×Int×Int×af)×((aa Int)×(aa Int)×af)×af))
def Jx(x:ahb):ah (ahb⊕(((Bool×af)×(af))⊕(((af×af)×(((aa Int)×(aa Int)×af)×af))⊕Empty))):=letI C:=x.1.2.2;letI D:=C.2.2.1;letI E:=xG (((),(),C.1,C.2.1,(W6 (D+1)),()),(x.2.1,x.2.2.1,()));bif D<C.2.1 then xI C.1 D λL=>(BN (⟨x.2.1.1,x.2.1.2.1,x.2.1.2.2.1,x.2.1.2.2.2.1⟩:aP) D).bind λO=>(bX L (-1) 1000000).bind λT=>bif (!T)then aq ((false,()),())else bif (!O.2)then bif (L != (-1))then aq ((false,()),())else E else E else aM (((),()),(x.2.2.1,()))
def au3:KY 82 (aN f214):=⟨0,lB 0 ⟨[(2,.aG 2 0),(3,.aG 3 0),(31,.lf (.aC .int 0)),(32,tI),(33,tI)],[(2,.az fl),(3,.az Bd)],[]⟩ [(1,fJ),(2,aee)] Jx,lp [dD,aha]⟩
abbrev ahc:=((af×(aa Int)×Int×Int×af)×(((aa Int)×(aa Int)×af)×af))
def Jy(x:ahc):ah (ahc⊕(((Bool×af)×(af))⊕(((af)×(af))⊕Empty))):=letI C:=x.1.2.2.2.1;letI D:=xG (((),x.1.2.1,x.1.2.2.1,(W6 (C+1)),()),(x.2.1,()));bif C<x.1.2.2.1 then xI x.1.2.1 C λE=>(bX E 0 1000000).bind λL=>bif (!L)then aq ((false,()),())else bif C > 0 then xI x.2.1.2.1 (W6 (C-1)) λO=>bif O >= E then aq ((false,()),())else D else D else aM ((),())
def au4:KY 82 (aN f214):=⟨2,lB 2 ⟨[(3,.aG 3 0),(57,.lf (.aC .int 0)),(58,tI),(59,tI)],[(3,.az Bd)],[]⟩ [(1,fJ),(4,eC)] Jy,lp [dD]⟩
def Et(C:aP)(D:cP):ah (Bool):=(qO C).bind λL=>bif (!L)then some false else (mI C).bind λO=>bif ((D.last.length:Int) != (W6 (9*(W6 (O+1)))))then some false else bif (D.bg.length:Int) > 4 then some false else br Jx (((),(),D.last,(D.last.length:Int),0,()),((C.cg,C.ay,C.rows,C.aO,()),(D.last,D.bg,()),())) (λT=>some T.1.1) λE=>br Jy (((),E.2.1.2.1,(E.2.1.2.1.length:Int),0,()),(E.2.1,())) (λU=>some U.1.1) λY=>some true
def Xs:=bJ [(true,.en),(true,.je)] bH (aY Et) 82 [pQ,wE] [au3,au4] func214
def BO(C:Int):ah (Bool):=(bX C 0 15).bind λD=>some D
def Xt:=aJ jX bH (bu BO) 5 [dD] func147
abbrev ahd:=(((aa Int)×Int×(aa Int)×Int×Int×af)×(af))
def yZ(x:ahd):ah (ahd⊕(((Bool×af)×(af))⊕((((aa Int)×Int×af)×(af))⊕Empty))):=letI C:=x.1.2.2;bif C.2.2.1<C.2.1 then xI C.1 C.2.2.1 λD=>(BO D).bind λE=>bif (!E)then aq ((false,()),())else xG ((x.1.1,x.1.2.1,C.1,C.2.1,(W6 (C.2.2.1+1)),()),())else aM ((x.1.1,x.1.2.1,()),())
def au5:KY 21 (aN f329):=⟨0,lB 0 ⟨[(0,.lf (.aC .int 0)),(1,tI),(7,.lf (.aC .int 0)),(8,tI),(9,tI)],[],[]⟩ [(1,fJ),(2,ad9)] yZ,lp [Xt]⟩
def uB(C:aa Int)(E:Int):ah (Bool):=br yZ ((C,E,C,(C.length:Int),0,()),()) (λL=>some L.1.1) λD=>some ((D.1.1.length:Int)==D.1.2.1)
def Jz:=bJ yD bH (aY uB) 21 [] [au5] func329
abbrev ahe:=((af×(aa bC)×Int×Int×af)×(((aa bC)×(aa Int)×(aa Int)×af)×af))
def JA(x:ahe):ah (ahe⊕(((Bool×af)×(af))⊕(((af×af)×(((aa bC)×(aa Int)×(aa Int)×af)×af))⊕Empty))):=letI C:=x.1.2.2;bif C.2.1<C.1 then xI x.1.2.1 C.2.1 λD=>(uB D.symbols 11).bind λE=>bif (!E)then aq ((false,()),())else xG (((),x.1.2.1,C.1,(W6 (C.2.1+1)),()),(x.2.1,()))else aM (((),()),(x.2.1,()))
def au6:KY 74 (aN f215):=⟨0,lB 0 ⟨[(3,.aG 3 0),(40,.lf (.aC .Cell 0)),(41,tI),(42,tI)],Hq,[]⟩ [(1,fJ),(2,aen)] JA,lp [Jz]⟩
abbrev ahf:=((af×Int×Int×af)×(((aa bC)×(aa Int)×(aa Int)×af)×af))
def JB(x:ahf):ah (ahf⊕(((Bool×af)×(af))⊕(((af)×(af))⊕Empty))):=letI C:=x.1.2.2.1;bif C<x.1.2.1 then xI x.2.1.2.1 C λD=>(bX D 0 100000).bind λE=>bif (!E)then aq ((false,()),())else xI x.2.1.2.2.1 C λL=>(bX L 0 100000).bind λO=>bif (!O)then aq ((false,()),())else xG (((),x.1.2.1,(W6 (C+1)),()),(x.2.1,()))else aM ((),())
def au7:KY 74 (aN f215):=⟨2,lB 2 ⟨[(3,.aG 3 0),(53,tI),(54,tI)],Hq,[]⟩ [(1,fJ),(4,eC)] JB,lp [dD]⟩
def Eu(D:aP)(C:cF):ah (Bool):=(mI D).bind λE=>(qO D).bind λO=>bif (!O)then some false else (uz D).bind λT=>bif ((C.cells.length:Int) != T)then some false else bif ((C.bh.length:Int) != (W6 (E*D.rows)))then some false else bif ((C.aZ.length:Int) != (W6 (E*D.rows)))then some false else br JA (((),C.cells,(C.cells.length:Int),0,()),((C.cells,C.bh,C.aZ,()),())) (λU=>some U.1.1) λL=>br JB (((),(L.2.1.2.1.length:Int),0,()),(L.2.1,())) (λY=>some Y.1.1) λZ=>some true
def ahg:=bJ [(true,.en),(true,.Array)] bH (aY Eu) 74 [PW,pQ,wE] [au6,au7] func215
def Ev(T:aP)(E:eg)(L:Int):ah (Nat×Nat):=letI O:=W6 (T.rows-E.bT);letI C:=W6 (L*O);letI D:=W6 ((W6 (L+1))*O);if 0 <= C/\C <= D/\D <= (E.map.length:Int)then some (C.toNat,D.toNat)else none
def Xu:AH:=V6 [(true,.en),(true,.jf),(false,.int)] 1 1 .int (λx=>Ev x.1 x.2.1 x.2.2.1)
def ahh:enters Tryz.prog 330/\MY Tryz.prog 330 Xu:=aqa (N:=23) (fn:=f330) (code:=aN f330) (Φ:=(kJ [])) (Λ:=(iS [])) (t:=.int) func330 (by kernel_rfl) (by kernel_rfl) (by kernel_rfl) (by kernel_rfl) (by kernel_rfl) (by kernel_rfl) (by kernel_rfl) (by kernel_rfl) (uh _ trivial) pL (λx=>by kernel_rfl)
abbrev ahi:=((Int×Int×(aa Int)×Int×Int×af)×(af))
def JC(x:ahi):ah (ahi⊕(((Int×af)×(af))⊕Empty)):=letI C:=x.1.2.2;letI D:=C.2.2.1;bif D<C.2.1 then xI C.1 D λE=>bif (E==x.1.1)then xG ((x.1.1,(W6 (x.1.2.1+1)),C.1,C.2.1,(W6 (D+1)),()),())else xG ((x.1.1,x.1.2.1,C.1,C.2.1,(W6 (D+1)),()),())else aq ((x.1.2.1,()),())
def au8:KY 21 (aN f331):=⟨0,lB 0 ⟨[(1,tI),(5,tI),(8,.lf (.aC .int 0)),(9,tI),(10,tI)],[],[]⟩ [(2,uk)] JC,lp []⟩
def P2(C:aa Int)(D:Int):ah (Int):=aW JC ((D,0,C,(C.length:Int),0,()),()) λE=>some E.1.1
def au9:=bJ yD bS (aY P2) 21 [] [au8] func331
abbrev ahj:=((af×af×Int×Int×(aa Int)×(aa Int)×Int×Int×af)×((Int×Int×Int×Int×af)×(Int×(aa Int)×af)×af))
def Ew(x:ahj):ah (ahj⊕(((Bool×af)×(af))⊕(((af×af×Int×Int×af)×((Int×Int×Int×Int×af)×(Int×(aa Int)×af)×af))⊕Empty))):=letI D:=x.1.2.2;letI C:=D.2.2;letI E:=C.2.2.2.1;letI O:=xG (((),(),D.1,D.2.1,C.1,C.2.1,C.2.2.1,(W6 (E+1)),()),(x.2.1,x.2.2.1,()));bif E<C.2.2.1 then xI C.2.1 E λL=>bif (L != E)then (bX L D.1 (W6 (x.2.1.2.2.1-1))).bind λT=>bif (!T)then aq ((false,()),())else (P2 C.1 L).bind λU=>bif U > 1 then aq ((false,()),())else O else O else aM (((),(),D.1,D.2.1,()),(x.2.1,x.2.2.1,()))
def ava:KY 71 (pK (aN f216) 0):=⟨2,lB 2 ⟨[(2,.aG 2 0),(3,.aG 3 0),(7,tI),(8,tI),(9,.lf (.aC .int 0)),(45,.lf (.aC .int 0)),(46,tI),(47,tI)],adR,[]⟩ [(1,fJ),(4,Wq)] Ew,lp [dD,au9]⟩
abbrev ahk:=((af×af×Int×Int×af)×((Int×Int×Int×Int×af)×(Int×(aa Int)×af)×af))
def JD(x:ahk):ah (ahk⊕(((Bool×af)×(af))⊕(((af)×(af))⊕Empty))):=letI L:=x.1.2.2.2.1;letI C:=x.2.2.1;letI T:=(⟨x.2.1.1,x.2.1.2.1,x.2.1.2.2.1,x.2.1.2.2.2.1⟩:aP);(mI T).bind λU=>bif L<U then (Ev T (⟨C.1,C.2.1⟩:eg) L).bind λD=>letI O:=(C.2.1.take D.2).drop D.1;bif Nat.ble D.1 D.2&&Nat.ble D.2 C.2.1.length then br Ew (((),(),x.1.2.2.1,L,O,O,(O.length:Int),0,()),(x.2.1,C,())) (λY=>aq ((Y.1.1,()),())) λE=>xG (((),(),E.1.2.2.1,(W6 (E.1.2.2.2.1+1)),()),(E.2.1,E.2.2.1,()))else none else aM ((),())
def avb:KY 71 (aN f216):=⟨0,lB 0 Wq [(1,fJ),(2,eC)] JD,lq [pQ,⟨330,.v Xu,ahh⟩] [ava]⟩
def JE(C:aP)(D:eg):ah (Bool):=(Jq C D.bT).bind λE=>bif (!E.2)then some false else bif ((D.map.length:Int) != (E.1.map.length:Int))then some false else br JD (((),(),(W6 (C.rows-D.bT)),0,()),((C.cg,C.ay,C.rows,C.aO,()),(D.bT,D.map,()),())) (λL=>some L.1.1) λO=>some true
def ahl:=bJ NU bH (aY JE) 71 [ag0] [avb] func216
def BP(C:aP)(D:aF):ah (Bool):=(qO C).bind λE=>bif E then (mI C).bind λL=>(bX D.au 0 (W6 (L-1))).bind λO=>bif O then (bX D.row 0 (W6 (C.rows-1))).bind λT=>bif T then (bX D.bG 0 (W6 (C.aO-1))).bind λU=>some U else some false else some false else some false
def Xv:=aJ NV bH (aY BP) 31 [dD,pQ,wE] func146
abbrev ahm:=((af×(aa Int)×Int×Int×af)×(((aa Int)×Int×Bool×af)×af))
def JF(x:ahm):ah (ahm⊕(((Bool×af)×(af))⊕(((af×af)×(((aa Int)×Int×Bool×af)×af))⊕Empty))):=letI C:=x.1.2.2;bif C.2.1<C.1 then xI x.1.2.1 C.2.1 λD=>(bX D (-2) 5).bind λE=>bif (!E)then aq ((false,()),())else xG (((),x.1.2.1,C.1,(W6 (C.2.1+1)),()),(x.2.1,()))else aM (((),()),(x.2.1,()))
def avc:KY 25 (aN f224):=⟨0,lB 0 ⟨[(1,.aG 1 0),(6,.lf (.aC .int 0)),(7,tI),(8,tI)],[(1,.az Bc)],[]⟩ [(1,mH),(2,aef)] JF,lp [dD]⟩
def za(C:cK):ah (Bool):=br JF (((),C.aE,(C.aE.length:Int),0,()),((C.aE,C.wait,C.dj,()),())) (λE=>some E.1.1) λD=>(bX (D.2.1.1.length:Int) 1 8).bind λL=>bif L then (bX D.2.1.2.1 1 10000).bind λO=>some O else some false
def JG:=bJ Be bH (bu za) 25 [dD] [avc] func224
abbrev ahn:=(((aa Int)×Int×Int×Int×af)×(af))
def JH(x:ahn):ah (ahn⊕(((Int×af)×(af))⊕(((af)×(af))⊕Empty))):=letI C:=x.1.2.2.2.1;bif C<x.1.2.2.1 then xI x.1.1 C λD=>bif (x.1.2.1==D)then aq ((C,()),())else xG ((x.1.1,x.1.2.1,x.1.2.2.1,(W6 (C+1)),()),())else aM ((),())
def avd:KY 19 (aN f414):=⟨0,lB 0 ⟨[(0,.lf (.aC .int 0)),(1,tI),(7,tI),(8,tI)],[],[]⟩ [(1,jo),(2,eC)] JH,lp []⟩
def BQ(C:aa Int)(D:Int):ah (Int):=(iter JH aQ ((C,D,(C.length:Int),0,()),())).bind (Sum.elim (λE=>some E.1.1) (Sum.elim (λL=>some (-1)) (λz=>nomatch z)))
def Xw:=bJ yD bS (aY BQ) 19 [] [avd] func414
abbrev aho:=((af×(aa Int)×Int×Int×af)×(((aa Int)×(aa Int)×Int×af)×af))
def JI(x:aho):ah (aho⊕(((Bool×af)×(af))⊕(((af)×(af))⊕Empty))):=letI D:=aq ((false,()),());letI C:=x.1.2.2.2.1;letI L:=xG (((),x.1.2.1,x.1.2.2.1,(W6 (C+1)),()),(x.2.1,()));bif C<x.1.2.2.1 then xI x.1.2.1 C λE=>letI O:=bif (E != (-1))then (BQ x.2.1.1 E).bind λT=>bif (T != C)then D else L else L;(bX E (-1) 15).bind λU=>bif (!U)then D else xI x.2.1.2.1 C λY=>(bX Y x.2.1.2.2.1 100000).bind λZ=>bif (!Z)then D else bif (E==(-1))then xI x.2.1.2.1 C λiU=>bif (iU != 0)then D else O else O else aM ((),())
def ave:KY 72 (aN f332):=⟨0,lB 0 ⟨[(1,.aG 1 0),(26,.lf (.aC .int 0)),(27,tI),(28,tI)],Wr,[]⟩ [(1,mH),(2,eC)] JI,lp [dD,Xw]⟩
def zb(C:bI):ah (Bool):=letI D:=(C.rows.length:Int);(bX D 1 16).bind λE=>bif (!E)then some false else bif ((C.counts.length:Int) != D)then some false else (bX C.cE 0 100000).bind λL=>bif (!L)then some false else br JI (((),C.rows,D,0,()),((C.rows,C.counts,C.cE,()),())) (λO=>some O.1.1) λT=>some true
def ahp:=bJ Hy bH (bu zb) 72 [dD] [ave] func332
abbrev ahq:=(((aa aF)×af×Int×Int×af)×((Int×Int×Int×af)×af))
def JJ(x:ahq):ah (ahq⊕(((Int×af)×(af))⊕(((af)×(af))⊕Empty))):=letI C:=x.1.2.2.2.1;bif C<x.1.2.2.1 then xI x.1.1 C λD=>bif ((x.2.1.1==D.au)&&((x.2.1.2.1==D.row)&&((x.2.1.2.2.1==D.bG)&&true)))then aq ((C,()),())else xG ((x.1.1,(),x.1.2.2.1,(W6 (C+1)),()),(x.2.1,()))else aM ((),())
def avf:KY 19 (aN f333):=⟨0,lB 0 ⟨[(0,.lf (.aC .Addr 0)),(3,.aG 3 0),(7,tI),(8,tI)],[(3,.az NS)],[]⟩ [(1,jo),(2,eC)] JJ,lp []⟩
def Ex(D:aa aF)(C:aF):ah (Int):=(iter JJ aQ ((D,(),(D.length:Int),0,()),((C.au,C.row,C.bG,()),()))).bind (Sum.elim (λE=>some E.1.1) (Sum.elim (λL=>some (-1)) (λz=>nomatch z)))
def ahr:=bJ Ww bS (aY Ex) 19 [] [avf] func333
abbrev ahs:=((af×af×Int×Int×af)×(av×(Int×Int×Int×Int×af)×af))
def P3(x:ahs):ah (ahs⊕(((Bool×af)×(af))⊕(((af×af×af)×(av×(Int×Int×Int×Int×af)×af))⊕Empty))):=letI C:=x.1.2.2.2.1;bif C<x.1.2.2.1 then xI x.2.1.bx C λD=>(zb D).bind λE=>bif (!E)then aq ((false,()),())else xI x.2.1.guard C λL=>(bX L 3 1000).bind λO=>bif (!O)then aq ((false,()),())else xG (((),(),x.1.2.2.1,(W6 (C+1)),()),(x.2.1,x.2.2.1,()))else aM (((),(),()),(x.2.1,x.2.2.1,()))
def avg:KY 94 (aN f217):=⟨0,lB 0 ⟨[(1,.aG 1 0),(3,.aG 3 0),(47,tI),(48,tI)],Wy,[]⟩ [(1,mH),(2,⟨[(1,.aG 1 0),(3,.aG 3 0)],Wy,[]⟩)] P3,lp [dD,ahp]⟩
abbrev aht:=((af×af×(aa aF)×Int×Int×af)×(av×(Int×Int×Int×Int×af)×af))
def P4(x:aht):ah (aht⊕(((Bool×af)×(af))⊕(((af)×(af))⊕Empty))):=letI C:=x.2.2.1;letI L:=aq ((false,()),());letI D:=x.1.2.2;letI E:=D.2.2.1;bif E<D.2.1 then xI D.1 E λO=>(BP (⟨C.1,C.2.1,C.2.2.1,C.2.2.2.1⟩:aP) O).bind λT=>bif (!T)then L else bif (O.bG != 0)then L else (Ex x.2.1.pending O).bind λU=>bif (U != E)then L else xG (((),(),D.1,D.2.1,(W6 (E+1)),()),(x.2.1,C,()))else aM ((),())
def avh:KY 94 (aN f217):=⟨2,lB 2 ⟨[(1,.aG 1 0),(3,.aG 3 0),(69,.lf (.aC .Addr 0)),(70,tI),(71,tI)],Wy,[]⟩ [(1,mH),(4,eC)] P4,lp [Xv,ahr]⟩
def P5(C:av):ah (Bool):=(mI C.config.aB).bind λE=>(za C.aL).bind λL=>bif (!L)then some false else bif ((C.aL.aE.length:Int) != E)then some false else bif ((C.bx.length:Int) != E)then some false else bif ((C.guard.length:Int) != E)then some false else bif (C.pending.length:Int) > 128 then some false else br P3 (((),(),(C.bx.length:Int),0,()),(C,(C.config.aB.cg,C.config.aB.ay,C.config.aB.rows,C.config.aB.aO,()),())) (λO=>some O.1.1) λD=>br P4 (((),(),D.2.1.pending,(D.2.1.pending.length:Int),0,()),(D.2.1,D.2.2.1,())) (λT=>some T.1.1) λU=>some true
def avi:=bJ pN bH (bu P5) 94 [JG,pQ] [avg,avh] func217
def BR(C:Int):ah (Bool):=(bX C 0 4294967295).bind λD=>some D
def Xx:=aJ jX bH (bu BR) 5 [dD] func415
def P6(E:Int)(C:bk):ah (Bool):=letI D:=(bX C.at_ 0 1000000).bind λL=>some L;(bX C.id 1 100000).bind λO=>bif O then (bX C.de 0 3).bind λT=>bif T then bif C.line >= 0 then bif C.line<E then (BR C.data).bind λU=>bif U then bif C.write then D else bif (C.data==0)then D else some false else some false else some false else some false else some false else some false
def avj:=aJ [(false,.int),(true,.cQ)] bH (aY P6) 43 [dD,Xx] func334
def P7(C D:bk):ah (Bool):=bif C.at_<D.at_ then some true else bif (C.at_==D.at_)then some (C.id<D.id)else some false
def avk:=aJ WA bH (aY P7) 24 [] func335
end Go.Proofs.YtnilicojgkhpnaaGreat
