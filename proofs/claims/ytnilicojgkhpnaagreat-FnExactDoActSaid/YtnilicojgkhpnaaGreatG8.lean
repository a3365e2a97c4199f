/-
  Functions of the program as plain functions of contents, and that the code computes them. Nothing here is a claim.
-/
import Derived.Test.YtnilicojgkhpnaaGreatVZ
import Derived.Test.YtnilicojgkhpnaaGreatRows
import Derived.Test.YtnilicojgkhpnaaGreatG1
import Derived.Test.YtnilicojgkhpnaaGreatG2
import Derived.Test.YtnilicojgkhpnaaGreatG3
import Derived.Test.YtnilicojgkhpnaaGreatG4
import Derived.Test.YtnilicojgkhpnaaGreatG5
import Derived.Test.YtnilicojgkhpnaaGreatG6
import Derived.Test.YtnilicojgkhpnaaGreatG7
namespace Go.Proofs.YtnilicojgkhpnaaGreat
set_option linter.defProp false
open Go.RowKit Go.Proofs.Tryz
set_option linter.unusedVariables false
set_option maxRecDepth 100000
def ym(C:cS):ah (cS):=bif xZ C.aI then some (⟨(xA C.aI),C.wait,C.dD⟩:cS)else none
def S0:=aP CO [(true,.jz,2)] (bG ym) 9 [] func205
def Gh(C:bV):ah (bV):=bif xZ C.rows then bif xZ C.counts then some (⟨(xA C.rows),(xA C.counts),C.dg⟩:bV)else none else none
def aka:=aP JN [(true,.fj,2)] (bG Gh) 14 [] func206
def akb(C:aa aJ):ah ((aa aJ)):=bif jN C then none else bif bM (([]:aa aJ).length+C.length)then some (([]:aa aJ)++C)else none
def Z7(C:aa aJ):ah ((aa aJ)):=bif jN C then some []else akb C
def akc:jb:=gQ [(false,(.sl .Addr))] [(false,(.sl .Addr),2)] (λx=>Z7 x.1)
def azi:enters Tryz.prog 207/\iH Tryz.prog 207 akc:=CG 8 [] [] func207 trivial rE (t:=.Addr) (g:=2) (F:=akb) λx=>by kernel_rfl
def akd(C:aa aK):ah ((aa aK)):=bif jN C then none else bif bM (([]:aa aK).length+C.length)then some (([]:aa aK)++C)else none
def Z8(C:aa aK):ah ((aa aK)):=bif jN C then some []else akd C
def ake:jb:=gQ [(false,(.sl .cW))] [(false,(.sl .cW),2)] (λx=>Z8 x.1)
def azj:enters Tryz.prog 208/\iH Tryz.prog 208 ake:=CG 8 [] [] func208 trivial rE (t:=.cW) (g:=2) (F:=akd) λx=>by kernel_rfl
def akf(C:aa bY):ah ((aa bY)):=bif jN C then none else bif bM (([]:aa bY).length+C.length)then some (([]:aa bY)++C)else none
def Z9(C:aa bY):ah ((aa bY)):=bif jN C then some []else akf C
def akg:jb:=gQ [(false,(.sl .eC))] [(false,(.sl .eC),2)] (λx=>Z9 x.1)
def azk:enters Tryz.prog 209/\iH Tryz.prog 209 akg:=CG 8 [] [] func209 trivial rE (t:=.eC) (g:=2) (F:=akf) λx=>by kernel_rfl
def akh(C:aa bW):ah ((aa bW)):=bif jN C then none else bif bM (([]:aa bW).length+C.length)then some (([]:aa bW)++C)else none
def aaa(C:aa bW):ah ((aa bW)):=bif jN C then some []else akh C
def aki:jb:=gQ [(false,(.sl .eH))] [(false,(.sl .eH),2)] (λx=>aaa x.1)
def azl:enters Tryz.prog 210/\iH Tryz.prog 210 aki:=CG 8 [] [] func210 trivial rE (t:=.eH) (g:=2) (F:=akh) λx=>by kernel_rfl
def akj(C:aa c8):ah ((aa c8)):=bif jN C then none else bif bM (([]:aa c8).length+C.length)then some (([]:aa c8)++C)else none
def aab(C:aa c8):ah ((aa c8)):=bif jN C then some []else akj C
def akk:jb:=gQ [(false,(.sl .Event))] [(false,(.sl .Event),2)] (λx=>aab x.1)
def azm:enters Tryz.prog 211/\iH Tryz.prog 211 akk:=CG 8 [] [] func211 trivial rE (t:=.Event) (g:=2) (F:=akj) λx=>by kernel_rfl
def akl(C:aa cE):ah ((aa cE)):=bif jN C then none else bif bM (([]:aa cE).length+C.length)then some (([]:aa cE)++C)else none
def aac(C:aa cE):ah ((aa cE)):=bif jN C then some []else akl C
def akm:jb:=gQ [(false,(.sl .fV))] [(false,(.sl .fV),2)] (λx=>aac x.1)
def azn:enters Tryz.prog 212/\iH Tryz.prog 212 akm:=CG 8 [] [] func212 trivial rE (t:=.fV) (g:=2) (F:=akl) λx=>by kernel_rfl
def azo:bL:=⟨[(1,.aH 1 0),(2,.aH 2 0),(3,.aH 3 0),(36,.lf (.aF .fj 0)),(37,tI),(38,tI)],zz2,Qt⟩
def azp:aa (Nat×bL):=[(2,⟨[(1,.aH 1 0),(2,.aH 2 0),(3,.aH 3 0)],zz2,Qt⟩)]
abbrev akn:=((af×af×af×(aa bV)×Int×Int×af)×(ax×ax×(Int×Int×Int×Int×Int×Int×Int×Int×Int×Int×Int×Int×Int×Int×Int×Int×Int×Int×Int×Int×Int×Int×Bool×Int×Int×Int×Int×Int×Int×Int×Int×Int×Int×af×Int×Int×Int×Int×Int×Int×Int×af×Int×Int×Bool×Int×af×Int×af×af×af×af×af×Int×af×af×Int×Bool×af×(aa Int)×(aa aJ)×(aa aK)×(aa bY)×Bool×Int×Int×Int×Int×Int×Int×Int×Int×(aa bW)×(aa c8)×(aa cE)×af)×(aa Int)×(aa Int)×(aa c9)×(aa Int)×(aa Int)×(aa bP)×(aa Int)×(aa Int)×(aa Int)×(aa Int)×(aa bV)×af))
def Gi(x:akn):ah (akn⊕(((af×af×af×af)×(ax×ax×(Int×Int×Int×Int×Int×Int×Int×Int×Int×Int×Int×Int×Int×Int×Int×Int×Int×Int×Int×Int×Int×Int×Bool×Int×Int×Int×Int×Int×Int×Int×Int×Int×Int×af×Int×Int×Int×Int×Int×Int×Int×af×Int×Int×Bool×Int×af×Int×af×af×af×af×af×Int×af×af×Int×Bool×af×(aa Int)×(aa aJ)×(aa aK)×(aa bY)×Bool×Int×Int×Int×Int×Int×Int×Int×Int×(aa bW)×(aa c8)×(aa cE)×af)×(aa Int)×(aa Int)×(aa c9)×(aa Int)×(aa Int)×(aa bP)×(aa Int)×(aa Int)×(aa Int)×(aa Int)×(aa bV)×af))⊕Empty)):=letI E:=x.1.2.2.2;letI C:=x.2.2.2.2;letI L:=C.2.2.2.2;letI D:=L.2.2.2;bif E.2.2.1<E.2.1 then xI E.1 E.2.2.1 λT=>(Gh T).bind λO=>bif bM (D.2.2.2.1.length+[O].length)then xG (((),(),(),E.1,E.2.1,(W6 (E.2.2.1+1)),()),(x.2.1,x.2.2.1,x.2.2.2.1,C.1,C.2.1,C.2.2.1,C.2.2.2.1,L.1,L.2.1,L.2.2.1,D.1,D.2.1,D.2.2.1,(D.2.2.2.1++[O]),()))else none else av (((),(),(),()),(x.2.1,x.2.2.1,x.2.2.2.1,C.1,C.2.1,C.2.2.1,C.2.2.2.1,L.1,L.2.1,L.2.2.1,D.1,D.2.1,D.2.2.1,D.2.2.2.1,()))
def azq:KY 79 (aW f70):=⟨0,lB 0 azo azp Gi,lp [aka]⟩
def AN(C:ax):ah (ax):=(Ge C.box).bind λD=>(Gf C.br).bind λy2=>(Gg C.ready).bind λy3=>(Dt C.array).bind λy4=>(SZ C.spare.map).bind λy5=>(ym C.aV).bind λy6=>bk Gi (((),(),(),C.bJ,(C.bJ.length:Int),0,()),((⟨⟨⟨0,0,0,0⟩,⟨0,0,0,0,0,0,0,0,0,0,0,0,0,0,0,0,0⟩,⟨0,false⟩,0,0,0,⟨0,0⟩⟩,⟨⟨0,0,0,0,0,([]:aa Int),⟨0,0⟩⟩,⟨0,0,0,0,0,([]:aa Int),⟨0,0⟩⟩,false⟩,0,⟨([]:aa c9),0⟩,⟨([]:aa Int),([]:aa Int)⟩,⟨([]:aa bP),([]:aa Int),([]:aa Int)⟩,⟨0,([]:aa Int)⟩,⟨([]:aa Int),0,false⟩,([]:aa bV),([]:aa Int),([]:aa aJ),([]:aa aK),([]:aa bY),⟨false,0,0⟩,⟨0,0,0⟩,⟨0,0,0⟩,([]:aa bW),([]:aa c8),([]:aa cE)⟩:ax),C,(C.config.az.cu,C.config.az.aC,C.config.az.rows,C.config.az.aO,C.config.cq.jY,C.config.cq.rp,C.config.cq.gX,C.config.cq.nt,C.config.cq.jZ,C.config.cq.ke,C.config.cq.nu,C.config.cq.ny,C.config.cq.jy,C.config.cq.wr,C.config.cq.nA,C.config.cq.nB,C.config.cq.p9,C.config.cq.nD,C.config.cq.n7,C.config.cq.xp,C.config.cq.xs,C.config.mapping.order,C.config.mapping.hash,C.config.bQ,C.config.interval,C.config.iQ,C.config.dW.bx,C.config.dW.bw,D.bH.eX,D.bH.cap,D.bH.fQ,D.bH.low,D.bH.high,(),D.bH.eT.down,D.bH.eT.sleep,D.next.eX,D.next.cap,D.next.fQ,D.next.low,D.next.high,(),D.next.eT.down,D.next.eT.sleep,D.waits,C.now,(),y2.bf,(),(),(),(),(),C.spare.bQ,(),(),y6.wait,y6.dD,(),C.guard,C.pending,C.queue,C.shares,C.drain.on,C.drain.low,C.drain.high,C.bf.state,C.bf.since,C.bf.idle,C.cH.next,C.cH.every,C.cH.wait,C.errors,C.trace,C.cy,()),D.bH.weights,D.next.weights,y2.aC,y3.last,y3.bC,y4.cells,y4.bx,y4.bw,y5,y6.aI,([]:aa bV),())) λgy=>letI L:=gy.2.2.1;letI E:=gy.2.2.2;letI u16:=E.1.2.2;letI u9:=E.2.2.2.2.2;letI yd:=u9.2.2.2;letI u7:=u16.2.2.2;letI yc:=u7.2.2.2;letI u2:=yc.2.2.2;letI T:=u2.2.2.2;letI U:=T.2.2.2.2;letI Y:=U.2.2.2.2;letI Z:=Y.2.2.2.2;letI nT:=Z.2.2.2.2;letI Aq:=nT.2.2.2.2;letI O:=Aq.2.2;letI u8:=O.2.2.2.2.2.2;letI C1:=u8.2.2.2.2.2.2.2.2.2.2.2;letI u1:=C1.2.2.2;letI u6:=u1.2.2.2.2.2.2.2;letI yo:=u6.2.2.2.2;(SZ L.guard).bind λeP=>(Z7 L.pending).bind λgC=>(Z8 L.queue).bind λgD=>(Z9 L.shares).bind λiV=>(aaa L.errors).bind λig=>(aab L.trace).bind λjH=>(aac L.cy).bind λhG=>some (⟨⟨⟨E.1.1,E.1.2.1,u16.1,u16.2.1⟩,⟨u16.2.2.1,u7.1,u7.2.1,u7.2.2.1,yc.1,yc.2.1,yc.2.2.1,u2.1,u2.2.1,u2.2.2.1,T.1,T.2.1,T.2.2.1,T.2.2.2.1,U.1,U.2.1,U.2.2.1⟩,⟨U.2.2.2.1,Y.1⟩,Y.2.1,Y.2.2.1,Y.2.2.2.1,⟨Z.1,Z.2.1⟩⟩,⟨⟨Z.2.2.1,Z.2.2.2.1,nT.1,nT.2.1,nT.2.2.1,E.2.1,⟨Aq.1,Aq.2.1⟩⟩,⟨O.1,O.2.1,O.2.2.1,O.2.2.2.1,O.2.2.2.2.1,E.2.2.1,⟨u8.1,u8.2.1⟩⟩,u8.2.2.1⟩,u8.2.2.2.1,⟨E.2.2.2.1,u8.2.2.2.2.2.1⟩,⟨E.2.2.2.2.1,u9.1⟩,⟨u9.2.1,u9.2.2.1,yd.1⟩,⟨C1.1,yd.2.1⟩,⟨yd.2.2.1,u1.1,u1.2.1⟩,yd.2.2.2.1,eP,gC,gD,iV,⟨u6.1,u6.2.1,u6.2.2.1⟩,⟨u6.2.2.2.1,yo.1,yo.2.1⟩,⟨yo.2.2.1,yo.2.2.2.1,yo.2.2.2.2.1⟩,ig,jH,hG⟩:ax)
def Mg:=bS sN [(true,.cN,4)] (bG AN) 79 [Z5,aj4,aj5,Z6,⟨204,.p aj9,azh⟩,S0,⟨207,.p akc,azi⟩,⟨208,.p ake,azj⟩,⟨209,.p akg,azk⟩,⟨210,.p aki,azl⟩,⟨211,.p akk,azm⟩,⟨212,.p akm,azn⟩] [azq] func70
def cA(C D E:Int):ah (Bool):=bif C >= D then some (C <= E)else some false
def ef:=aP [(false,.int),(false,.int),(false,.int)] bR (fO cA) 15 [] func133
def sQ(C:aM):ah (Bool):=(cA C.cu 1 2).bind λD=>bif D then (cA C.aC 1 4).bind λE=>bif E then (cA C.rows 2 16).bind λL=>bif L then (cA C.aO 1 8).bind λO=>some O else some false else some false else some false
def yp:=aP CN bR (bG sQ) 21 [ef] func279
def oD(C:aM):ah (Int):=(sQ C).bind λD=>bif (!D)then some 0 else some (W6 (C.cu*C.aC))
def rH:=aP CN cm (bG oD) 11 [yp] func227
def uy(C:aM):ah (Int):=(oD C).bind λD=>some (W6 ((W6 (D*C.rows))*C.aO))
def Mh:=aP CN cm (bG uy) 11 [rH] func81
abbrev ako:=((Int×af×af×af×Int×Int×af)×((Int×Int×Int×Int×af)×(Int×af×af)×(Int×af×af)×(aa Int)×(aa Int)×af))
def Gj(x:ako):ah (ako⊕(((Int×af×af×af×Int×af)×((Int×Int×Int×Int×af)×(Int×af×af)×(Int×af×af)×(aa Int)×(aa Int)×af))⊕Empty)):=letI C:=x.2.2.2;letI D:=x.1.2.2.2.2;bif D.2.1<(W6 (x.2.1.2.2.1-x.1.1))then bif bM (C.2.2.1.length+([D.2.1]:aa Int).length)then xG ((x.1.1,(),(),(),D.1,(W6 (D.2.1+1)),()),(x.2.1,x.2.2.1,C.1,C.2.1,(C.2.2.1++([D.2.1]:aa Int)),()))else none else av ((x.1.1,(),(),(),D.1,()),(x.2.1,x.2.2.1,C.1,C.2.1,C.2.2.1,()))
def azr:KY 48 (rD (aW f272) 0):=⟨2,lB 2 ⟨[(1,tI),(2,.aH 2 0),(4,.aH 4 0),(6,.aH 6 0),(7,tI),(8,tI)],af3,[]⟩ [(4,Y3)] Gj,lp []⟩
abbrev akp:=((Int×af×af×af×Int×af)×((Int×Int×Int×Int×af)×(Int×af×af)×(Int×af×af)×(aa Int)×(aa Int)×af))
def Mi(x:akp):ah (akp⊕(((af×af×af)×((Int×af×af)×(Int×af×af)×(aa Int)×(aa Int)×af))⊕Empty)):=letI D:=x.2.2.2;(oD (⟨x.2.1.1,x.2.1.2.1,x.2.1.2.2.1,x.2.1.2.2.2.1⟩:aM)).bind λE=>bif x.1.2.2.2.2.1<E then bk Gj ((x.1.1,(),(),(),x.1.2.2.2.2.1,0,()),(x.2.1,x.2.2.1,D.1,D.2.1,D.2.2.1,())) λC=>xG ((C.1.1,(),(),(),(W6 (C.1.2.2.2.2.1+1)),()),(C.2.1,C.2.2.1,C.2.2.2.1,C.2.2.2.2.1,C.2.2.2.2.2.1,()))else av (((),(),()),(x.2.2.1,D.1,D.2.1,D.2.2.1,()))
def azs:KY 48 (aW f272):=⟨0,lB 0 Y3 [(2,af8)] Mi,lq [rH] [azr]⟩
def Mj(C:aM)(D:Int):ah (cQ×Bool):=letI E:=some ((⟨0,[]⟩:cQ),false);(sQ C).bind λO=>bif (!O)then E else (cA D 0 2).bind λT=>bif (!T)then E else bif (W6 (C.rows-D))<2 then E else bk Mi ((D,(),(),(),0,()),((C.cu,C.aC,C.rows,C.aO,()),(0,(),()),(D,(),()),([]:aa Int),([]:aa Int),())) λL=>some ((⟨L.2.2.1.1,L.2.2.2.2.1⟩:cQ),true)
def akq:=bS JE [(true,.jL,2),(false,.bool,0)] (bq Mj) 48 [ef,yp] [azs] func272
abbrev akr:=((af×af×Int×Int×af)×(dj×(aa Int)×af))
def Gk(x:akr):ah (akr⊕(((Bool×af)×(af))⊕(((af×af)×(dj×af))⊕Empty))):=letI C:=x.1.2.2;bif C.2.1<C.1 then xL x.2.2.1 C.2.1 λD=>(cA D 1 64).bind λE=>bif (!E)then av ((false,()),())else xG (((),(),C.1,(W6 (C.2.1+1)),()),(x.2.1,x.2.2.1,()))else aQ (((),()),(x.2.1,()))
def azt:KY 75 (aW f375):=⟨0,lB 0 ⟨[(1,.aH 1 0),(39,.lf (.own 39)),(40,tI),(41,tI)],[(1,.st .kf),(39,.sl .int 2)],[]⟩ [(1,oB),(2,agJ)] Gk,lp [ef]⟩
def Gl(C:dj):ah (Bool):=letI E:=([C.jY,C.rp,C.gX,C.nt,C.jZ,C.ke,C.nu,C.ny,C.jy,C.wr,C.nA,C.nB,C.p9,C.nD,C.n7,C.xp,C.xs]:aa Int);bE Gk (((),(),(E.length:Int),0,()),(C,E,())) (λL=>some L.1.1) λO=>letI D:=O.2.1;bif D.jY <= D.gX then bif D.nt <= D.jZ then bif D.nu <= D.ny then some (D.nA <= D.nB)else some false else some false else some false
def aad:=bS Fu bR (bG Gl) 75 [] [azt] func375
def Mk(C:jX):ah (Bool):=(cA C.order 0 2).bind λD=>some D
def aks:=aP [(true,.n8)] bR (bG Mk) 6 [ef] func376
def yu(C:dj):ah (Int):=(Gl C).bind λD=>bif (!D)then some 0 else some (W6 (2*(W6 ((W6 ((W6 ((W6 ((W6 ((W6 ((W6 ((W6 ((W6 (C.n7+C.xp))+C.gX))+C.wr))+C.jy))+C.rp))+C.nD))+C.jY))+(W6 (8*C.jZ))))+16))))
def azu:=aP Fu cm (bG yu) 35 [aad] func377
def S1(C:iG):ah (Bool):=(Mj C.az C.bQ).bind λD=>(sQ C.az).bind λE=>bif E then (Gl C.cq).bind λL=>bif L then (Mk C.mapping).bind λO=>bif O then bif D.2 then (yu C.cq).bind λT=>(cA C.interval T 10000).bind λU=>bif U then (cA C.iQ 1 16).bind λY=>bif Y then (cA C.dW.bx (W6 (6*C.interval)) 100000).bind λZ=>bif Z then (cA C.dW.bw 0 100000).bind λy9=>some y9 else some false else some false else some false else some false else some false else some false else some false
def azv:=aP [(true,.Config)] bR (bG S1) 57 [ef,akq,yp,aad,aks,azu] func281
abbrev akt:=(((aa bY)×(aa bY)×Int×Int×af)×(af))
def Ml(x:akt):ah (akt⊕(((Bool×af)×(af))⊕((((aa bY)×af)×(af))⊕Empty))):=letI C:=x.1.2.2;bif C.2.1<C.1 then xI x.1.2.1 C.2.1 λD=>(cA D.weight 1 9).bind λE=>bif (!E)then av ((false,()),())else (cA D.ff 0 D.weight).bind λL=>bif (!L)then av ((false,()),())else xG ((x.1.1,x.1.2.1,C.1,(W6 (C.2.1+1)),()),())else aQ ((x.1.1,()),())
def azw:KY 27 (aW f220):=⟨0,lB 0 ⟨[(0,.lf (.aF .eC 0)),(5,.lf (.aF .eC 0)),(6,tI),(7,tI)],[],[]⟩ [(1,oB),(2,agN)] Ml,lp [ef]⟩
def Gm(C:aa bY):ah (Bool):=bE Ml ((C,C,(C.length:Int),0,()),()) (λD=>some D.1.1) λE=>(cA (E.1.1.length:Int) 1 4).bind λL=>some L
def aae:=bS [(false,(.sl .eC))] bR (bG Gm) 27 [ef] [azw] func220
abbrev aku:=((af×(aa Int)×Int×Int×af)×((aa bY)×af))
def Mm(x:aku):ah (aku⊕(((af×af)×((aa bY)×af))⊕Empty)):=letI C:=x.1.2.2;bif C.2.1<C.1 then xI x.1.2.1 C.2.1 λD=>letI E:=([(⟨D,D⟩:bY)]:aa bY);bif bM (x.2.1.length+E.length)then xG (((),x.1.2.1,C.1,(W6 (C.2.1+1)),()),((x.2.1++E),()))else none else av (((),()),(x.2.1,()))
def azx:KY 25 (aW f79):=⟨0,lB 0 ⟨[(4,.lf (.own 7)),(8,.lf (.aF .int 0)),(9,tI),(10,tI)],Qv,[]⟩ [(2,⟨[(4,.lf (.own 7))],Qv,[]⟩)] Mm,lp []⟩
def AO(C:aa Int):ah ((aa bY)×Bool):=bk Mm (((),C,(C.length:Int),0,()),(([]:aa bY),())) λD=>(Gm D.2.1).bind λE=>bif (!E)then some ([],false)else some (D.2.1,true)
def akv:=bS nS [(false,(.sl .eC),2),(false,.bool,0)] (bG AO) 25 [aae] [azx] func79
def Du(C:gP):ah (Bool):=bif C.low >= 0 then bif C.low<C.high then some (C.high <= 12)else some false else some false
def S2:=aP [(true,.lD)] bR (bG Du) 18 [] func221
def Mn(C:lA):ah (Bool):=(cA C.down 1 10000).bind λD=>bif D then bif C.sleep > C.down then some (C.sleep <= 20000)else some false else some false
def akw:=aP [(true,.n9)] bR (bG Mn) 18 [ef] func378
def Mo(C:fh):ah (Bool):=(AO C.weights).bind λE=>letI D:=(cA C.cap 0 100000).bind λL=>bif L then (cA C.fQ 3 1000).bind λO=>bif O then (Du (⟨false,C.low,C.high⟩:gP)).bind λT=>bif T then bif ((C.weights.length:Int)==4)then bif E.2 then (Mn C.eT).bind λU=>some U else some false else some false else some false else some false else some false;bif (C.eX==0)then D else bif (C.eX==1)then D else some false
def akx:=aP JL bR (bG Mo) 51 [akv,ef,S2,akw] func282
def Gn(C:Int):ah (Int):=(cA C 3 1000).bind λD=>bif (!D)then some 0 else some (W6 ((W6 (2*C))+2))
def azy:=aP mz cm (bG Gn) 9 [ef] func283
def uz(C:iG)(D:fh):ah (Bool):=letI E:=W6 (C.cq.gX+C.cq.rp);(S1 C).bind λL=>bif L then (Mo D).bind λO=>bif O then (Gn D.fQ).bind λT=>bif (W6 (T+2)) <= C.dW.bw then if E=0 then none else some ((W6 ((W6 (C.iQ+1))*D.fQ)) > (W6 ((W6 ((W6 (5*C.interval)).tdiv E))+2)))else some false else some false else some false
def aky:=aP [(true,.Config),(true,.lE)] bR (bq uz) 42 [azv,akx,azy] func150
abbrev akz:=((af×(aa c9)×Int×Int×af)×((aa Int)×af))
def Gq(x:akz):ah (akz⊕(((af×af)×((aa Int)×af))⊕Empty)):=letI C:=x.1.2.2.2.1;letI D:=((),x.1.2.1,x.1.2.2.1,(W6 (C+1)),());bif C<x.1.2.2.1 then xI x.1.2.1 C λE=>bif E.open_ then bif bM (x.2.1.length+([C]:aa Int).length)then xG (D,((x.2.1++([C]:aa Int)),()))else none else xG (D,(x.2.1,()))else av (((),()),(x.2.1,()))
def azz:KY 23 (aW f327):=⟨0,lB 0 ⟨[(3,.lf (.own 6)),(8,.lf (.aF .gi 0)),(9,tI),(10,tI)],[(6,.sl .int 2)],[]⟩ [(2,agE)] Gq,lp []⟩
def AP(C:cC):ah ((aa Int)):=bk Gq (((),C.aC,(C.aC.length:Int),0,()),(([]:aa Int),())) λD=>some D.2.1
def S3:=bS JM mw (bG AP) 23 [] [azz] func327
abbrev akA:=((af×af×(aa c9)×Int×Int×af)×((Int×Int×Int×Int×af)×((aa c9)×Int×af)×af))
def Mp(x:akA):ah (akA⊕(((Bool×af)×(af))⊕(((af×af)×(((aa c9)×Int×af)×af))⊕Empty))):=letI C:=x.1.2.2;letI E:=xG (((),(),C.1,C.2.1,(W6 (C.2.2.1+1)),()),(x.2.1,x.2.2.1,()));bif C.2.2.1<C.2.1 then xI C.1 C.2.2.1 λD=>(cA D.row 0 (W6 (x.2.1.2.2.1-1))).bind λL=>bif (!L)then av ((false,()),())else bif (!D.open_)then bif (D.row != 0)then av ((false,()),())else E else E else aQ (((),()),(x.2.2.1,()))
def azA:KY 58 (aW f213):=⟨0,lB 0 ⟨[(2,.aH 2 0),(3,.aH 3 0),(25,.lf (.aF .gi 0)),(26,tI),(27,tI)],[(2,.aB eZ),(3,.aB Ak)],[]⟩ [(1,gR),(2,⟨[(3,.aH 3 0)],[(3,.aB Ak)],[]⟩)] Mp,lp [ef]⟩
def Mq(C:aM)(D:cC):ah (Bool):=(sQ C).bind λL=>bif (!L)then some false else (oD C).bind λO=>bif ((D.aC.length:Int) != O)then some false else (cA D.bf 0 2).bind λT=>bif (!T)then some false else bE Mp (((),(),D.aC,(D.aC.length:Int),0,()),((C.cu,C.aC,C.rows,C.aO,()),(D.aC,D.bf,()),())) (λU=>some U.1.1) λE=>bif (E.2.1.2.1 != 2)then some true else (AP (⟨E.2.1.1,E.2.1.2.1⟩:cC)).bind λY=>some ((Y.length:Int)==0)
def akB:=bS [(true,.fA),(true,.ja)] bR (bq Mq) 58 [ef,rH,yp,S3] [azA] func213
def yw(C:Int):ah (Bool):=(cA C 1 5).bind λD=>some D
def S4:=aP mz bR (bG yw) 5 [ef] func413
def Dv(O:aM)(L:Int):ah (aG×Bool):=letI C:=W6 (L.tdiv 9);letI D:=W6 ((L.tmod 9)+1);(oD O).bind λE=>bif C<E then (yw D).bind λT=>some ((⟨D,C,0,0⟩:aG),((decide (C<E))==T))else (yw D).bind λU=>some ((⟨D,0,0,0⟩:aG),((decide (C<E))==U))
def akC:=aP JE [(true,.Command,0),(false,.bool,0)] (bq Dv) 27 [rH,S4] func328
abbrev akD:=((af×af×(aa Int)×Int×Int×af)×((Int×Int×Int×Int×af)×((aa Int)×(aa Int)×af)×af))
def Mr(x:akD):ah (akD⊕(((Bool×af)×(af))⊕(((af×af)×(((aa Int)×(aa Int)×af)×af))⊕Empty))):=letI C:=x.1.2.2;letI D:=C.2.2.1;letI E:=xG (((),(),C.1,C.2.1,(W6 (D+1)),()),(x.2.1,x.2.2.1,()));bif D<C.2.1 then xI C.1 D λL=>(Dv (⟨x.2.1.1,x.2.1.2.1,x.2.1.2.2.1,x.2.1.2.2.2.1⟩:aM) D).bind λO=>(cA L (-1) 1000000).bind λT=>bif (!T)then av ((false,()),())else bif (!O.2)then bif (L != (-1))then av ((false,()),())else E else E else aQ (((),()),(x.2.2.1,()))
def azB:KY 82 (aW f214):=⟨0,lB 0 ⟨[(2,.aH 2 0),(3,.aH 3 0),(31,.lf (.aF .int 0)),(32,tI),(33,tI)],[(2,.aB eZ),(3,.aB CM)],[]⟩ [(1,gR),(2,agK)] Mr,lp [ef,akC]⟩
abbrev akE:=((af×(aa Int)×Int×Int×af)×(((aa Int)×(aa Int)×af)×af))
def Ms(x:akE):ah (akE⊕(((Bool×af)×(af))⊕(((af)×(af))⊕Empty))):=letI C:=x.1.2.2.2.1;letI D:=xG (((),x.1.2.1,x.1.2.2.1,(W6 (C+1)),()),(x.2.1,()));bif C<x.1.2.2.1 then xI x.1.2.1 C λE=>(cA E 0 1000000).bind λL=>bif (!L)then av ((false,()),())else bif C > 0 then xI x.2.1.2.1 (W6 (C-1)) λO=>bif O >= E then av ((false,()),())else D else D else aQ ((),())
def azC:KY 82 (aW f214):=⟨2,lB 2 ⟨[(3,.aH 3 0),(57,.lf (.aF .int 0)),(58,tI),(59,tI)],[(3,.aB CM)],[]⟩ [(1,gR),(4,fq)] Ms,lp [ef]⟩
def Gr(C:aM)(D:dB):ah (Bool):=(sQ C).bind λL=>bif (!L)then some false else (oD C).bind λO=>bif ((D.last.length:Int) != (W6 (9*(W6 (O+1)))))then some false else bif (D.bC.length:Int) > 4 then some false else bE Mr (((),(),D.last,(D.last.length:Int),0,()),((C.cu,C.aC,C.rows,C.aO,()),(D.last,D.bC,()),())) (λT=>some T.1.1) λE=>bE Ms (((),E.2.1.2.1,(E.2.1.2.1.length:Int),0,()),(E.2.1,())) (λU=>some U.1.1) λY=>some true
def aaf:=bS [(true,.fA),(true,.kO)] bR (bq Gr) 82 [rH,yp] [azB,azC] func214
def sR(C:Int):ah (Bool):=(cA C 0 15).bind λD=>some D
def Mt:=aP mz bR (bG sR) 5 [ef] func147
abbrev akF:=(((aa Int)×Int×(aa Int)×Int×Int×af)×(af))
def AQ(x:akF):ah (akF⊕(((Bool×af)×(af))⊕((((aa Int)×Int×af)×(af))⊕Empty))):=letI C:=x.1.2.2;bif C.2.2.1<C.2.1 then xI C.1 C.2.2.1 λD=>(sR D).bind λE=>bif (!E)then av ((false,()),())else xG ((x.1.1,x.1.2.1,C.1,C.2.1,(W6 (C.2.2.1+1)),()),())else aQ ((x.1.1,x.1.2.1,()),())
def azD:KY 21 (aW f329):=⟨0,lB 0 ⟨[(0,.lf (.aF .int 0)),(1,tI),(7,.lf (.aF .int 0)),(8,tI),(9,tI)],[],[]⟩ [(1,gR),(2,agF)] AQ,lp [Mt]⟩
def wj(C:aa Int)(E:Int):ah (Bool):=bE AQ ((C,E,C,(C.length:Int),0,()),()) (λL=>some L.1.1) λD=>some ((D.1.1.length:Int)==D.1.2.1)
def Mv:=bS Aj bR (bq wj) 21 [] [azD] func329
abbrev akG:=((af×(aa bP)×Int×Int×af)×(((aa bP)×(aa Int)×(aa Int)×af)×af))
def Mw(x:akG):ah (akG⊕(((Bool×af)×(af))⊕(((af×af)×(((aa bP)×(aa Int)×(aa Int)×af)×af))⊕Empty))):=letI C:=x.1.2.2;bif C.2.1<C.1 then xI x.1.2.1 C.2.1 λD=>(wj D.symbols 11).bind λE=>bif (!E)then av ((false,()),())else xG (((),x.1.2.1,C.1,(W6 (C.2.1+1)),()),(x.2.1,()))else aQ (((),()),(x.2.1,()))
def azE:KY 74 (aW f215):=⟨0,lB 0 ⟨[(3,.aH 3 0),(40,.lf (.aF .Cell 0)),(41,tI),(42,tI)],JC,[]⟩ [(1,gR),(2,agV)] Mw,lp [Mv]⟩
abbrev akH:=((af×Int×Int×af)×(((aa bP)×(aa Int)×(aa Int)×af)×af))
def Mx(x:akH):ah (akH⊕(((Bool×af)×(af))⊕(((af)×(af))⊕Empty))):=letI C:=x.1.2.2.1;bif C<x.1.2.1 then xI x.2.1.2.1 C λD=>(cA D 0 100000).bind λE=>bif (!E)then av ((false,()),())else xI x.2.1.2.2.1 C λL=>(cA L 0 100000).bind λO=>bif (!O)then av ((false,()),())else xG (((),x.1.2.1,(W6 (C+1)),()),(x.2.1,()))else aQ ((),())
def azF:KY 74 (aW f215):=⟨2,lB 2 ⟨[(3,.aH 3 0),(53,tI),(54,tI)],JC,[]⟩ [(1,gR),(4,fq)] Mx,lp [ef]⟩
def Dw(D:aM)(C:cV):ah (Bool):=(oD D).bind λE=>(sQ D).bind λO=>bif (!O)then some false else (uy D).bind λT=>bif ((C.cells.length:Int) != T)then some false else bif ((C.bx.length:Int) != (W6 (E*D.rows)))then some false else bif ((C.bw.length:Int) != (W6 (E*D.rows)))then some false else bE Mw (((),C.cells,(C.cells.length:Int),0,()),((C.cells,C.bx,C.bw,()),())) (λU=>some U.1.1) λL=>bE Mx (((),(L.2.1.2.1.length:Int),0,()),(L.2.1,())) (λY=>some Y.1.1) λZ=>some true
def aag:=bS [(true,.fA),(true,.Array)] bR (bq Dw) 74 [Mh,rH,yp] [azE,azF] func215
def Dx(T:aM)(E:cQ)(L:Int):ah (Nat×Nat):=letI O:=W6 (T.rows-E.bQ);letI C:=W6 (L*O);letI D:=W6 ((W6 (L+1))*O);if 0 <= C/\C <= D/\D <= (E.map.length:Int)then some (C.toNat,D.toNat)else none
def S5:Cg:=YQ [(true,.fA),(true,.jL),(false,.int)] 1 1 .int (λx=>Dx x.1 x.2.1 x.2.2.1)
def aah:enters Tryz.prog 330/\Pm Tryz.prog 330 S5:=atn (N:=23) (fn:=f330) (code:=aW f330) (Φ:=(mV [])) (Λ:=(kA [])) (t:=.int) func330 (by kernel_rfl) (by kernel_rfl) (by kernel_rfl) (by kernel_rfl) (by kernel_rfl) (by kernel_rfl) (by kernel_rfl) (by kernel_rfl) (v5 _ trivial) rE (λx=>by kernel_rfl)
abbrev akI:=((Int×Int×(aa Int)×Int×Int×af)×(af))
def My(x:akI):ah (akI⊕(((Int×af)×(af))⊕Empty)):=letI C:=x.1.2.2;letI D:=C.2.2.1;bif D<C.2.1 then xI C.1 D λE=>bif (E==x.1.1)then xG ((x.1.1,(W6 (x.1.2.1+1)),C.1,C.2.1,(W6 (D+1)),()),())else xG ((x.1.1,x.1.2.1,C.1,C.2.1,(W6 (D+1)),()),())else av ((x.1.2.1,()),())
def azG:KY 21 (aW f331):=⟨0,lB 0 ⟨[(1,tI),(5,tI),(8,.lf (.aF .int 0)),(9,tI),(10,tI)],[],[]⟩ [(2,v8)] My,lp []⟩
def S6(C:aa Int)(D:Int):ah (Int):=bk My ((D,0,C,(C.length:Int),0,()),()) λE=>some E.1.1
def azH:=bS Aj cm (bq S6) 21 [] [azG] func331
abbrev akJ:=((af×af×Int×Int×(aa Int)×(aa Int)×Int×Int×af)×((Int×Int×Int×Int×af)×(Int×(aa Int)×af)×af))
def Gs(x:akJ):ah (akJ⊕(((Bool×af)×(af))⊕(((af×af×Int×Int×af)×((Int×Int×Int×Int×af)×(Int×(aa Int)×af)×af))⊕Empty))):=letI D:=x.1.2.2;letI C:=D.2.2;letI E:=C.2.2.2.1;letI O:=xG (((),(),D.1,D.2.1,C.1,C.2.1,C.2.2.1,(W6 (E+1)),()),(x.2.1,x.2.2.1,()));bif E<C.2.2.1 then xI C.2.1 E λL=>bif (L != E)then (cA L D.1 (W6 (x.2.1.2.2.1-1))).bind λT=>bif (!T)then av ((false,()),())else (S6 C.1 L).bind λU=>bif U > 1 then av ((false,()),())else O else O else aQ (((),(),D.1,D.2.1,()),(x.2.1,x.2.2.1,()))
def azI:KY 71 (rD (aW f216) 0):=⟨2,lB 2 ⟨[(2,.aH 2 0),(3,.aH 3 0),(7,tI),(8,tI),(9,.lf (.aF .int 0)),(45,.lf (.aF .int 0)),(46,tI),(47,tI)],[(2,.aB eZ),(3,.aB JG)],[]⟩ [(1,gR),(4,Y6)] Gs,lp [ef,azH]⟩
abbrev akK:=((af×af×Int×Int×af)×((Int×Int×Int×Int×af)×(Int×(aa Int)×af)×af))
def Mz(x:akK):ah (akK⊕(((Bool×af)×(af))⊕(((af)×(af))⊕Empty))):=letI L:=x.1.2.2.2.1;letI C:=x.2.2.1;letI T:=(⟨x.2.1.1,x.2.1.2.1,x.2.1.2.2.1,x.2.1.2.2.2.1⟩:aM);(oD T).bind λU=>bif L<U then (Dx T (⟨C.1,C.2.1⟩:cQ) L).bind λD=>letI O:=(C.2.1.take D.2).drop D.1;bif Nat.ble D.1 D.2&&Nat.ble D.2 C.2.1.length then bE Gs (((),(),x.1.2.2.1,L,O,O,(O.length:Int),0,()),(x.2.1,C,())) (λY=>av ((Y.1.1,()),())) λE=>xG (((),(),E.1.2.2.1,(W6 (E.1.2.2.2.1+1)),()),(E.2.1,E.2.2.1,()))else none else aQ ((),())
def azJ:KY 71 (aW f216):=⟨0,lB 0 Y6 [(1,gR),(2,fq)] Mz,lq [rH,⟨330,.v S5,aah⟩] [azI]⟩
def MA(C:aM)(D:cQ):ah (Bool):=(Mj C D.bQ).bind λE=>bif (!E.2)then some false else bif ((D.map.length:Int) != (E.1.map.length:Int))then some false else bE Mz (((),(),(W6 (C.rows-D.bQ)),0,()),((C.cu,C.aC,C.rows,C.aO,()),(D.bQ,D.map,()),())) (λL=>some L.1.1) λO=>some true
def akL:=bS Qr bR (bq MA) 71 [akq] [azJ] func216
def yx(C:aM)(D:aJ):ah (Bool):=(sQ C).bind λE=>bif E then (oD C).bind λL=>(cA D.ay 0 (W6 (L-1))).bind λO=>bif O then (cA D.row 0 (W6 (C.rows-1))).bind λT=>bif T then (cA D.bT 0 (W6 (C.aO-1))).bind λU=>some U else some false else some false else some false
def MB:=aP Qs bR (bq yx) 31 [ef,rH,yp] func146
abbrev akM:=((af×(aa Int)×Int×Int×af)×(((aa Int)×Int×Bool×af)×af))
def MC(x:akM):ah (akM⊕(((Bool×af)×(af))⊕(((af×af)×(((aa Int)×Int×Bool×af)×af))⊕Empty))):=letI C:=x.1.2.2;bif C.2.1<C.1 then xI x.1.2.1 C.2.1 λD=>(cA D (-2) 5).bind λE=>bif (!E)then av ((false,()),())else xG (((),x.1.2.1,C.1,(W6 (C.2.1+1)),()),(x.2.1,()))else aQ (((),()),(x.2.1,()))
def azK:KY 25 (aW f224):=⟨0,lB 0 ⟨[(1,.aH 1 0),(6,.lf (.aF .int 0)),(7,tI),(8,tI)],[(1,.aB CL)],[]⟩ [(1,oB),(2,agL)] MC,lp [ef]⟩
def yz(C:cS):ah (Bool):=bE MC (((),C.aI,(C.aI.length:Int),0,()),((C.aI,C.wait,C.dD,()),())) (λE=>some E.1.1) λD=>(cA (D.2.1.1.length:Int) 1 8).bind λL=>bif L then (cA D.2.1.2.1 1 10000).bind λO=>some O else some false
def Gt:=bS CO bR (bG yz) 25 [ef] [azK] func224
abbrev akN:=(((aa Int)×Int×Int×Int×af)×(af))
def MD(x:akN):ah (akN⊕(((Int×af)×(af))⊕(((af)×(af))⊕Empty))):=letI C:=x.1.2.2.2.1;bif C<x.1.2.2.1 then xI x.1.1 C λD=>bif (x.1.2.1==D)then av ((C,()),())else xG ((x.1.1,x.1.2.1,x.1.2.2.1,(W6 (C+1)),()),())else aQ ((),())
def azL:KY 19 (aW f414):=⟨0,lB 0 ⟨[(0,.lf (.aF .int 0)),(1,tI),(7,tI),(8,tI)],[],[]⟩ [(1,kC),(2,fq)] MD,lp []⟩
def Dy(C:aa Int)(D:Int):ah (Int):=(iter MD aX ((C,D,(C.length:Int),0,()),())).bind (Sum.elim (λE=>some E.1.1) (Sum.elim (λL=>some (-1)) (λz=>nomatch z)))
def aai:=bS Aj cm (bq Dy) 19 [] [azL] func414
abbrev akO:=((af×(aa Int)×Int×Int×af)×(((aa Int)×(aa Int)×Int×af)×af))
def ME(x:akO):ah (akO⊕(((Bool×af)×(af))⊕(((af)×(af))⊕Empty))):=letI D:=av ((false,()),());letI C:=x.1.2.2.2.1;letI L:=xG (((),x.1.2.1,x.1.2.2.1,(W6 (C+1)),()),(x.2.1,()));bif C<x.1.2.2.1 then xI x.1.2.1 C λE=>letI O:=bif (E != (-1))then (Dy x.2.1.1 E).bind λT=>bif (T != C)then D else L else L;(cA E (-1) 15).bind λU=>bif (!U)then D else xI x.2.1.2.1 C λY=>(cA Y x.2.1.2.2.1 100000).bind λZ=>bif (!Z)then D else bif (E==(-1))then xI x.2.1.2.1 C λkE=>bif (kE != 0)then D else O else O else aQ ((),())
def azM:KY 72 (aW f332):=⟨0,lB 0 ⟨[(1,.aH 1 0),(26,.lf (.aF .int 0)),(27,tI),(28,tI)],Y7,[]⟩ [(1,oB),(2,fq)] ME,lp [ef,aai]⟩
def AR(C:bV):ah (Bool):=letI D:=(C.rows.length:Int);(cA D 1 16).bind λE=>bif (!E)then some false else bif ((C.counts.length:Int) != D)then some false else (cA C.dg 0 100000).bind λL=>bif (!L)then some false else bE ME (((),C.rows,D,0,()),((C.rows,C.counts,C.dg,()),())) (λO=>some O.1.1) λT=>some true
def akP:=bS JN bR (bG AR) 72 [ef] [azM] func332
end Go.Proofs.YtnilicojgkhpnaaGreat
