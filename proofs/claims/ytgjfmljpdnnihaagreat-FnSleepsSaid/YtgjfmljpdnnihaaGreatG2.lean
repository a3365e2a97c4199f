/-
  Functions of the program as plain functions of contents, and that the code computes them. Nothing here is a claim.
-/
import Derived.Test.YtgjfmljpdnnihaaGreatVZ
import Derived.Test.YtgjfmljpdnnihaaGreatRows
import Derived.Test.YtgjfmljpdnnihaaGreatRep
import Derived.Test.YtgjfmljpdnnihaaGreatG1
namespace Go.Proofs.YtgjfmljpdnnihaaGreat
set_option linter.defProp false
open Go.RowKit Go.Proofs.Tryz
set_option linter.unusedVariables false
set_option maxRecDepth 100000
def Ei(D:aH):ah (bJ):=(ni D).bind λE=>bif (!E)then some (⟨[],0⟩:bJ)else (jB D).bind λC=>if 0 <= C/\C <= C/\C<1073741824 then some (⟨(List.replicate C.toNat (⟨false,0⟩:dQ)),0⟩:bJ)else none
def Tc:=bQ yj [(true,.kN,2)] (cw Ei) 11 [lN,qk] func29
abbrev aa4:=((aj×aj×Int×Int×aj)×((aj×aj×aj)×(aj×aj×aj)×(aa Int)×(aa Int)×(aa Int)×(aa Int)×aj))
def HB(x:aa4):ah (aa4⊕(((aj×aj×aj)×((aj×aj×aj)×(aj×aj×aj)×(aa Int)×(aa Int)×(aa Int)×(aa Int)×aj))⊕Empty)):=letI u2:=x.1.2.2.2.1;letI u1:=((),(),());letI C:=x.2.2.2.2;bif u2<x.1.2.2.1 then xL C.2.1 u2 λD=>xG (((),(),x.1.2.2.1,(W6 (u2+1)),()),(u1,u1,x.2.2.2.1,C.1,(C.2.1.set u2.toNat (-1:Int)),C.2.2.1,()))else aM (u1,(u1,u1,x.2.2.2.1,C.1,C.2.1,C.2.2.1,()))
def alg:KY 27 (bx f30):=⟨0,lB 0 ⟨[(2,.aJ 2 0),(3,.aJ 3 0),(17,tI),(18,tI)],aak,[]⟩ [(2,⟨S0,aak,[]⟩)] HB,lp []⟩
def HC(D:aH):ah (dN):=(ni D).bind λI=>bif (!I)then some (⟨[],[]⟩:dN)else (jB D).bind λO=>letI C:=W6 (9*(W6 (O+1)));if 0 <= C/\C <= C/\C<1073741824 then bR HB (((),(),((List.replicate C.toNat (0:Int)).length:Int),0,()),(((),(),()),((),(),()),([]:aa Int),([]:aa Int),(List.replicate C.toNat (0:Int)),([]:aa Int),())) λE=>some (⟨E.2.2.2.2.2.1,E.2.2.2.2.2.2.1⟩:dN)else none
def aa5:=dg yj [(true,.oq,2)] (cw HC) 27 [lN,qk] [alg] func30
def sW(C:aH):ah (Int):=(jB C).bind λD=>some (W6 ((W6 (D*C.rows))*C.aR))
def Ej:=bQ yj gd (cw sW) 11 [lN] func43
def Cg(C:Int):ah (Bool):=(bU C 0 4294967295).bind λD=>some D
def Td:=bQ sS dP (cw Cg) 5 [dM] func185
def Ch(C:Int):ah (Bool):=(bU C 0 15).bind λD=>some D
def Te:=bQ sS dP (cw Ch) 5 [dM] func120
abbrev aa6:=(((aa Int)×Int×(aa Int)×Int×Int×aj)×(aj))
def Al(x:aa6):ah (aa6⊕(((Bool×aj)×(aj))⊕((((aa Int)×Int×aj)×(aj))⊕Empty))):=letI C:=x.1.2.2;bif C.2.2.1<C.2.1 then xI C.1 C.2.2.1 λD=>(Ch D).bind λE=>bif (!E)then aM ((false,()),())else xG ((x.1.1,x.1.2.1,C.1,C.2.1,(W6 (C.2.2.1+1)),()),())else bG ((x.1.1,x.1.2.1,()),())
def alh:KY 21 (bx f127):=⟨0,lB 0 ⟨[(0,.lf (.aF .int 0)),(1,tI),(7,.lf (.aF .int 0)),(8,tI),(9,tI)],[],[]⟩ [(1,sU),(2,⟨[(0,.lf (.aF .int 0)),(1,tI)],[],[]⟩)] Al,lp [Te]⟩
def vS(C:aa Int)(E:Int):ah (Bool):=cZ Al ((C,E,C,(C.length:Int),0,()),()) (λI=>some I.1.1) λD=>some ((D.1.1.length:Int)==D.1.2.1)
def HD:=dg LR dP (di vS) 21 [] [alh] func127
abbrev aa7:=((Int×Int×Int×Int×aj)×(aj))
def aa8(x:aa7):ah (aa7⊕(((Int×aj)×(aj))⊕Empty)):=letI u4:=x.1.2.1;letI u1:=x.1.2.2;letI u3:=bits .xor .i64 u1.1 x.1.1;letI u2:=W6 (u1.2.1+1);letI C:=W6 (x.1.1*2 ^ (min (1:Int).toNat IntKind.i64.bits));bif u1.2.1<4 then if u1.2.1<0 then none else bif ((bits .and .i64 (u4.fdiv (2 ^ (min u1.2.1.toNat IntKind.i64.bits))) 1)==1)then bif C > 15 then xG (((bits .xor .i64 C 19),u4,u3,u2,()),())else xG ((C,u4,u3,u2,()),())else bif C > 15 then xG (((bits .xor .i64 C 19),u4,u1.1,u2,()),())else xG ((C,u4,u1.1,u2,()),())else aM ((u1.1,()),())
def ali:KY 34 (bx f257):=⟨0,lB 0 ⟨[(0,tI),(1,tI),(5,tI),(6,tI)],[],[]⟩ [(2,Hg)] aa8,lp []⟩
def jk(C D:Int):ah (Int):=(Ch C).bind λE=>bif (!E)then some (-1)else (Ch D).bind λI=>bif (!I)then some (-1)else bR aa8 ((C,D,0,0,()),()) λO=>some O.1.1
def HE:=dg LS gd (di jk) 34 [Te] [ali] func257
abbrev aa9:=((Int×Int×Int×aj)×(aj))
def aba(x:aa9):ah (aa9⊕(((Int×aj)×(aj))⊕Empty)):=bif x.1.2.1 > 0 then (jk x.1.2.2.1 x.1.1).bind λC=>xG ((x.1.1,(W6 (x.1.2.1-1)),C,()),())else aM ((x.1.2.2.1,()),())
def alj:KY 22 (bx f306):=⟨0,lB 0 ⟨[(0,tI),(1,tI),(5,tI)],[],[]⟩ [(2,Hg)] aba,lp [HE]⟩
def HF(C D:Int):ah (Int):=(Ch C).bind λE=>bif (!E)then some (-1)else (bU D 0 1000).bind λI=>bif (!I)then some (-1)else bR aba ((C,D,1,()),()) λO=>some O.1.1
def abb:=dg LS gd (di HF) 22 [dM,Te] [alj] func306
abbrev abc:=(((aa Int)×aj×Int×Int×Int×(aa Int)×Int×Int×aj)×((aa Int)×aj))
def Ci(x:abc):ah (abc⊕((((aa Int)×aj×Int×Int×aj)×((aa Int)×aj))⊕Empty)):=letI u1:=x.1.2.2;letI C:=u1.2.2;letI u2:=C.2.2.2.1;bif u2<C.2.2.1 then xI C.2.1 u2 λD=>xL x.2.1 u1.1 λE=>(HF 2 (W6 (u2*u1.1))).bind λI=>(jk D I).bind λO=>xL x.2.1 u1.1 λT=>xG ((x.1.1,(),u1.1,u1.2.1,C.1,C.2.1,C.2.2.1,(W6 (u2+1)),()),((x.2.1.set u1.1.toNat (bits .xor .i64 E O)),()))else aM ((x.1.1,(),u1.2.1,C.1,()),(x.2.1,()))
def alk:KY 38 (yg (bx f255) 0):=⟨2,lB 2 ⟨[(0,.lf (.aF .int 0)),(3,.lf (.own 10)),(4,tI),(12,tI),(13,tI),(16,.lf (.aF .int 0)),(17,tI),(18,tI)],[(10,.sl .int 2)],[]⟩ [(4,aam)] Ci,lp [HE,abb]⟩
abbrev abd:=(((aa Int)×aj×Int×Int×aj)×((aa Int)×aj))
def El(x:abd):ah (abd⊕(((aj×aj)×((aa Int)×aj))⊕Empty)):=letI C:=x.1.2.2;bif C.2.1<C.1 then bR Ci ((x.1.1,(),C.2.1,C.1,C.2.1,x.1.1,(x.1.1.length:Int),0,()),(x.2.1,())) λD=>xG ((D.1.1,(),D.1.2.2.1,(W6 (D.1.2.2.2.1+1)),()),(D.2.1,()))else aM (((),()),(x.2.1,()))
def alm:KY 38 (bx f255):=⟨0,lB 0 aam [(2,⟨[(3,.lf (.own 10))],[(10,.sl .int 2)],[]⟩)] El,lq [] [alk]⟩
def Am(D:aa Int):ah ((aa Int)):=letI C:=(3:Int);(vS D 11).bind λE=>bif (!E)then some ([])else if 0 <= C/\C <= 3/\C<1073741824 then bR El ((D,(),((List.replicate C.toNat (0:Int)).length:Int),0,()),((List.replicate C.toNat (0:Int)),())) λI=>some I.2.1 else none
def Tf:=dg Af vQ (cw Am) 38 [HD] [alm] func255
abbrev abe:=((Int×Int×aj)×(aj))
def abf(x:abe):ah (abe⊕(((Int×aj)×(aj))⊕(((aj)×(aj))⊕Empty))):=bif x.1.2.1 <= 15 then (jk x.1.1 x.1.2.1).bind λC=>bif (C==1)then aM ((x.1.2.1,()),())else xG ((x.1.1,(W6 (x.1.2.1+1)),()),())else bG ((),())
def aln:KY 13 (bx f256):=⟨0,lB 0 aaF [(1,⟨[(2,tI)],[],[]⟩),(2,mA)] abf,lp [HE]⟩
def Cj(C:Int):ah (Int):=cZ abf ((C,1,()),()) (λD=>some D.1.1) λE=>some (-1)
def abg:=dg sS gd (cw Cj) 13 [] [aln] func256
def HG(E:aa Int):ah ((aa Int)):=letI u4:=(1:Int);letI u3:=(3:Int);letI u2:=(0:Int);letI u1:=(List.replicate u3.toNat u2)++E;(vS E 8).bind λY=>bif (!Y)then some ([])else if 0 <= u3/\u3 <= 3/\u3<1073741824 then bif bV ((List.replicate u3.toNat u2).length+E.length)then (Am u1).bind λC=>xL C u2 λI=>xL C u4 λO=>xL C u2 λZ=>xL C (2:Int) λAn=>letI u5:=bits .xor .i64 Z An;(Cj 4).bind λT=>(jk 2 (bits .xor .i64 I O)).bind λqj=>(jk 5 u5).bind λoT=>(jk (bits .xor .i64 qj oT) T).bind λU=>xL u1 u4 λe21=>(jk 3 u5).bind λmB=>(jk 5 (bits .xor .i64 I O)).bind λuI=>(jk (bits .xor .i64 mB uI) T).bind λAo=>letI D:=(u1.set u4.toNat U).set (2:Int).toNat Ao;xL (u1.set u4.toNat U) (2:Int) λMj=>xL C u2 λTg=>xL D u4 λe33=>xL D (2:Int) λe36=>xL D u2 λe39=>some (D.set u2.toNat (bits .xor .i64 (bits .xor .i64 Tg e33) e36))else none else none
def alo:=bQ Af vQ (cw HG) 63 [HD,Tf,abg,HE] func186
abbrev abh:=((Int×aj×Int×aj)×((aa Int)×aj))
def HH(x:abh):ah (abh⊕(((aj×aj)×((aa Int)×aj))⊕Empty)):=letI u1:=x.1.2.2.1;letI C:=([(bits .and .i64 (x.1.1.fdiv (2 ^ (min (W6 (4*u1)).toNat IntKind.i64.bits))) 15)]:aa Int);bif u1<8 then if (W6 (4*u1))<0 then none else bif bV (x.2.1.length+C.length)then xG ((x.1.1,(),(W6 (u1+1)),()),((x.2.1++C),()))else none else aM (((),()),(x.2.1,()))
def alp:KY 22 (bx f187):=⟨0,lB 0 ⟨[(0,tI),(3,.lf (.own 8)),(4,tI)],[(8,.sl .int 2)],[]⟩ [(2,⟨[(3,.lf (.own 8))],[(8,.sl .int 2)],[]⟩)] HH,lp []⟩
def Mk(C:Int):ah ((aa Int)):=(Cg C).bind λD=>bif (!D)then some ([])else bR HH ((C,(),0,()),(([]:aa Int),())) λE=>some E.2.1
def alq:=dg sS vQ (cw Mk) 22 [Td] [alp] func187
def Ap(C:Int):ah ((aa Int)):=(Cg C).bind λD=>bif (!D)then some ([])else (Mk C).bind λE=>(HG E).bind λI=>some I
def abi:=bQ sS vQ (cw Ap) 9 [Td,alo,alq] func84
def alr:bC:=⟨[(1,.aJ 1 0),(2,.aJ 2 0),(4,.aJ 4 0),(5,tI)],[(1,.aA gI),(2,.aA LP),(4,.aA [.own 90200,.own 16,.own 18]),(90100,.sl .Cell 4),(90101,.sl .int 2),(90102,.sl .int 2),(90200,.sl .Cell 4),(16,.sl .int 2),(18,.sl .int 2)],[]⟩
def als:aa (Nat×bC):=[(2,⟨[(2,.aJ 2 0),(4,.aJ 4 0)],[(2,.aA LP),(4,.aA [.own 90200,.own 16,.own 18]),(90100,.sl .Cell 4),(90101,.sl .int 2),(90102,.sl .int 2),(90200,.sl .Cell 4),(16,.sl .int 2),(18,.sl .int 2)],[]⟩)]
abbrev abj:=((aj×aj×aj×Int×aj)×((Int×Int×Int×Int×aj)×(aj×aj×aj×aj)×(aj×aj×aj×aj)×(aa cy)×(aa Int)×(aa Int)×(aa cy)×(aa Int)×(aa Int)×aj))
def HI(x:abj):ah (abj⊕(((aj×aj×aj)×((aj×aj×aj×aj)×(aj×aj×aj×aj)×(aa cy)×(aa Int)×(aa Int)×(aa cy)×(aa Int)×(aa Int)×aj))⊕Empty)):=letI u1:=((),(),(),());letI C:=x.2.2.2.2.2;letI u2:=C.2.2;(sW (⟨x.2.1.1,x.2.1.2.1,x.2.1.2.2.1,x.2.1.2.2.2.1⟩:aH)).bind λE=>bif x.1.2.2.2.1<E then (Ap 0).bind λD=>bif bV (u2.1.length+[(⟨D,false⟩:cy)].length)then xG (((),(),(),(W6 (x.1.2.2.2.1+1)),()),(x.2.1,u1,u1,x.2.2.2.2.1,C.1,C.2.1,(u2.1++[(⟨D,false⟩:cy)]),u2.2.1,u2.2.2.1,()))else none else aM (((),(),()),(u1,u1,x.2.2.2.2.1,C.1,C.2.1,u2.1,u2.2.1,u2.2.2.1,()))
def alu:KY 34 (bx f31):=⟨0,lB 0 alr als HI,lp [Ej,abi]⟩
def Ml(D:aH):ah (dj):=(ni D).bind λE=>bif (!E)then some (⟨[],[],[]⟩:dj)else (jB D).bind λI=>letI C:=W6 (I*D.rows);if 0 <= C/\C <= C/\C<1073741824 then if 0 <= C/\C <= C/\C<1073741824 then bR HI (((),(),(),0,()),((D.bM,D.aE,D.rows,D.aR,()),((),(),(),()),((),(),(),()),([]:aa cy),([]:aa Int),([]:aa Int),([]:aa cy),(List.replicate C.toNat (0:Int)),(List.replicate C.toNat (0:Int)),())) λO=>letI u1:=O.2.2.2.2.2.2;some (⟨u1.1,u1.2.1,u1.2.2.1⟩:dj)else none else none
def alv:=dg yj [(true,.Array,4)] (cw Ml) 34 [lN,qk] [alu] func31
def vT(C:dD):ah (dD):=bif xZ C.weights then some (⟨C.eI,C.cap,C.dG,C.low,C.high,(xA C.weights),C.bF⟩:dD)else none
def Th:=bQ [(true,.mV)] [(true,.mV,2)] (cw vT) 9 [] func85
def Mm(C:dD):ah (mS×Bool):=(HA C).bind λD=>bif (!D)then some ((⟨⟨0,0,0,0,0,[],⟨0,0⟩⟩,⟨0,0,0,0,0,[],⟨0,0⟩⟩,false⟩:mS),false)else (vT C).bind λE=>(vT C).bind λI=>some ((⟨E,I,false⟩:mS),true)
def alw:=bQ [(true,.mV)] [(true,.rZ,2),(false,.bool,0)] (cw Mm) 13 [aa2,Th] func32
def Mn(C D:Int):ah (eB×Bool):=letI E:=some ((⟨[],0,false⟩:eB),false);(bU C 1 8).bind λI=>bif (!I)then E else (bU D 2 10000).bind λO=>bif (!O)then E else if 0 <= C/\C <= C/\C<1073741824 then some ((⟨(List.replicate C.toNat (0:Int)),D,false⟩:eB),true)else none
def alx:=bQ LS [(true,.mU,2),(false,.bool,0)] (di Mn) 19 [dM] func34
def Ti(C:Int):ah (tN×Bool):=(bU C 1 100000).bind λD=>bif (!D)then some ((⟨0,0,0⟩:tN),false)else some ((⟨0,C,C⟩:tN),true)
def aly:=bQ sS [(true,.vj,0),(false,.bool,0)] (cw Ti) 11 [dM] func37
def Em(C:Int):ah (cJ×Bool):=(bU C 1 16).bind λD=>bif (!D)then some ((⟨[],[],0⟩:cJ),false)else (B8 ([(-1)]:aa Int) C).bind λE=>if 0 <= C/\C <= C/\C<1073741824 then some ((⟨E,(List.replicate C.toNat (0:Int)),0⟩:cJ),true)else none
def abk:=bQ sS [(true,.mT,2),(false,.bool,0)] (cw Em) 14 [dM,⟨86,.p aab,akM⟩] func38
def alz:bC:=⟨[(2,.aJ 2 0),(3,.aJ 3 0),(4,.aJ 4 0),(6,.aJ 6 0),(7,.aJ 7 0),(8,tI)],[(2,.st .Config),(3,.aA B9),(6,.aA gI)],aav⟩
def alA:aa (Nat×bC):=[(2,⟨[(4,.aJ 4 0),(7,.aJ 7 0)],[],aav⟩)]
abbrev abl:=((aj×aj×aj×aj×aj×Int×aj)×(au×au×fl×(Int×Int×Int×Int×Int×(aa Int)×Int×Int×aj)×(Int×Int×Int×Int×aj)×aj))
def En(x:abl):ah (abl⊕(((aj×aj×aj)×(au×au×aj))⊕Empty)):=letI u1:=x.2.2.2.2;letI u2:=([u1.1.2.2.1]:aa Int);letI C:=x.2.2.1;(jB (⟨u1.2.1.1,u1.2.1.2.1,u1.2.1.2.2.1,u1.2.1.2.2.2.1⟩:aH)).bind λE=>bif x.1.2.2.2.2.2.1<E then (Em x.2.2.2.1.gU).bind λD=>bif bV (C.bB.length+[D.1].length)then bif bV (C.guard.length+u2.length)then xG (((),(),(),(),(),(W6 (x.1.2.2.2.2.2.1+1)),()),(x.2.1,{C with bB:=(C.bB++[D.1]),guard:=(C.guard++u2)},x.2.2.2.1,u1.1,u1.2.1,()))else none else none else aM (((),(),()),(x.2.1,C,()))
def alB:KY 92 (bx f9):=⟨0,lB 0 alz alA En,lp [lN,abk]⟩
def Mo(C:fl)(D:dD):ah (au×Bool):=(sV C D).bind λE=>bif (!E)then some ((⟨⟨⟨0,0,0,0⟩,⟨0,0,0,0,0,0,0,0,0,0,0,0,0,0,0,0,0⟩,⟨0,false⟩,0,0,0,⟨0,0⟩⟩,⟨⟨0,0,0,0,0,[],⟨0,0⟩⟩,⟨0,0,0,0,0,[],⟨0,0⟩⟩,false⟩,0,⟨[],0⟩,⟨[],[]⟩,⟨[],[],[]⟩,⟨0,[]⟩,⟨[],0,false⟩,[],[],[],[],[],⟨false,0,0⟩,⟨0,0,0⟩,⟨0,0,0⟩,[],[],[]⟩:au),false)else (Ei C.ak).bind λI=>(HC C.ak).bind λO=>(Ml C.ak).bind λT=>(Mm D).bind λU=>(Ef C.ak C.cS).bind λY=>(jB C.ak).bind λZ=>(Mn Z C.interval).bind λy8=>(yl D.weights).bind λy9=>(Ti 10).bind λrE=>bR En (((),(),(),(),(),0,()),((⟨⟨⟨0,0,0,0⟩,⟨0,0,0,0,0,0,0,0,0,0,0,0,0,0,0,0,0⟩,⟨0,false⟩,0,0,0,⟨0,0⟩⟩,⟨⟨0,0,0,0,0,([]:aa Int),⟨0,0⟩⟩,⟨0,0,0,0,0,([]:aa Int),⟨0,0⟩⟩,false⟩,0,⟨([]:aa dQ),0⟩,⟨([]:aa Int),([]:aa Int)⟩,⟨([]:aa cy),([]:aa Int),([]:aa Int)⟩,⟨0,([]:aa Int)⟩,⟨([]:aa Int),0,false⟩,([]:aa cJ),([]:aa Int),([]:aa aP),([]:aa aV),([]:aa dw),⟨false,0,0⟩,⟨0,0,0⟩,⟨0,0,0⟩,([]:aa cI),([]:aa bH),([]:aa eJ)⟩:au),(⟨C,U.1,0,I,O,T,Y.1,y8.1,([]:aa cJ),([]:aa Int),([]:aa aP),([]:aa aV),y9.1,⟨false,D.low,D.high⟩,⟨0,0,0⟩,rE.1,([]:aa cI),([]:aa bH),([]:aa eJ)⟩:au),C,(D.eI,D.cap,D.dG,D.low,D.high,D.weights,D.bF.down,D.bF.sleep,()),(C.ak.bM,C.ak.aE,C.ak.rows,C.ak.aR,()),())) λoU=>some (oU.2.2.1,true)
def alC:=dg [(true,.Config),(true,.mV)] SX (di Mo) 92 [aa3,Tc,aa5,alv,alw,S9,alx,lN,Tb,aly] [alB] func9
def HJ(C:mS):ah (mS):=(vT C.bT).bind λD=>(vT C.next).bind λE=>some (⟨D,E,C.waits⟩:mS)
def abm:=bQ [(true,.rZ)] [(true,.rZ,2)] (cw HJ) 12 [Th] func87
def Eo(C:bJ):ah (bJ):=bif xZ C.aE then some (⟨(xA C.aE),C.aN⟩:bJ)else none
def abn:=bQ [(true,.kN)] [(true,.kN,2)] (cw Eo) 9 [] func88
def Ep(C:dN):ah (dN):=bif xZ C.last then bif xZ C.aZ then some (⟨(xA C.last),(xA C.aZ)⟩:dN)else none else none
def abo:=bQ [(true,.oq)] [(true,.oq,2)] (cw Ep) 12 [] func89
def Mp(C:cy):ah (cy):=bif xZ C.symbols then some (⟨(xA C.symbols),C.pg⟩:cy)else none
def alD:=bQ [(true,.Cell)] [(true,.Cell,2)] (cw Mp) 9 [] func189
def alE:bC:=⟨[(2,.aJ 2 0),(3,.aJ 3 0),(16,.lf (.aF .Cell 0)),(17,tI),(18,tI)],aac,[]⟩
def alF:aa (Nat×bC):=[(2,⟨S0,aac,[]⟩)]
abbrev abp:=((aj×aj×(aa cy)×Int×Int×aj)×((aj×aj×aj×aj)×(aj×aj×aj×aj)×(aa cy)×(aa Int)×(aa Int)×(aa cy)×(aa Int)×(aa Int)×aj))
def HK(x:abp):ah (abp⊕(((aj×aj×aj)×((aj×aj×aj×aj)×(aj×aj×aj×aj)×(aa cy)×(aa Int)×(aa Int)×(aa cy)×(aa Int)×(aa Int)×aj))⊕Empty)):=letI u3:=x.2.2.2;letI u2:=x.1.2.2;letI u1:=((),(),(),());letI C:=u3.2.2;bif u2.2.2.1<u2.2.1 then xI u2.1 u2.2.2.1 λE=>(Mp E).bind λD=>bif bV (C.2.1.length+[D].length)then xG (((),(),u2.1,u2.2.1,(W6 (u2.2.2.1+1)),()),(u1,u1,u3.1,u3.2.1,C.1,(C.2.1++[D]),C.2.2.1,C.2.2.2.1,()))else none else aM (((),(),()),(u1,u1,u3.1,u3.2.1,C.1,C.2.1,C.2.2.1,C.2.2.2.1,()))
def alG:KY 31 (bx f90):=⟨0,lB 0 alE alF HK,lp [alD]⟩
def Er(C:dj):ah (dj):=bif xZ C.bu then bif xZ C.bg then bR HK (((),(),C.cells,(C.cells.length:Int),0,()),(((),(),(),()),((),(),(),()),([]:aa cy),([]:aa Int),([]:aa Int),([]:aa cy),(xA C.bu),(xA C.bg),())) λE=>letI D:=E.2.2.2.2.2.2;some (⟨D.1,D.2.1,D.2.2.1⟩:dj)else none else none
def abq:=dg [(true,.Array)] [(true,.Array,4)] (cw Er) 31 [] [alG] func90
def abr(C:aa Int):ah ((aa Int)):=bif ju C then none else bif bV (([]:aa Int).length+C.length)then some (([]:aa Int)++C)else none
def Mq(C:aa Int):ah ((aa Int)):=bif ju C then some []else abr C
def abt:jf:=gZ [(false,(.sl .int))] [(false,(.sl .int),2)] (λx=>Mq x.1)
def alH:enters Tryz.prog 91/\iL Tryz.prog 91 abt:=B6 8 [] [] func91 trivial rD (t:=.int) (g:=2) (F:=abr) λx=>by kernel_rfl
def Cl(C:eB):ah (eB):=bif xZ C.aD then some (⟨(xA C.aD),C.wait,C.dJ⟩:eB)else none
def Tj:=bQ [(true,.mU)] [(true,.mU,2)] (cw Cl) 9 [] func92
def Es(C:cJ):ah (cJ):=bif xZ C.rows then bif xZ C.counts then some (⟨(xA C.rows),(xA C.counts),C.fh⟩:cJ)else none else none
def abu:=bQ [(true,.mT)] [(true,.mT,2)] (cw Es) 14 [] func93
def abv(C:aa aP):ah ((aa aP)):=bif ju C then none else bif bV (([]:aa aP).length+C.length)then some (([]:aa aP)++C)else none
def Tl(C:aa aP):ah ((aa aP)):=bif ju C then some []else abv C
def abw:jf:=gZ [(false,(.sl .Addr))] [(false,(.sl .Addr),2)] (λx=>Tl x.1)
def alI:enters Tryz.prog 94/\iL Tryz.prog 94 abw:=B6 8 [] [] func94 trivial rD (t:=.Addr) (g:=2) (F:=abv) λx=>by kernel_rfl
def abx(C:aa aV):ah ((aa aV)):=bif ju C then none else bif bV (([]:aa aV).length+C.length)then some (([]:aa aV)++C)else none
def Tn(C:aa aV):ah ((aa aV)):=bif ju C then some []else abx C
def aby:jf:=gZ [(false,(.sl .eE))] [(false,(.sl .eE),2)] (λx=>Tn x.1)
def alJ:enters Tryz.prog 95/\iL Tryz.prog 95 aby:=B6 8 [] [] func95 trivial rD (t:=.eE) (g:=2) (F:=abx) λx=>by kernel_rfl
def abz(C:aa dw):ah ((aa dw)):=bif ju C then none else bif bV (([]:aa dw).length+C.length)then some (([]:aa dw)++C)else none
def To(C:aa dw):ah ((aa dw)):=bif ju C then some []else abz C
def abA:jf:=gZ [(false,(.sl .iG))] [(false,(.sl .iG),2)] (λx=>To x.1)
def alK:enters Tryz.prog 96/\iL Tryz.prog 96 abA:=B6 8 [] [] func96 trivial rD (t:=.iG) (g:=2) (F:=abz) λx=>by kernel_rfl
def abC(C:aa cI):ah ((aa cI)):=bif ju C then none else bif bV (([]:aa cI).length+C.length)then some (([]:aa cI)++C)else none
def Tp(C:aa cI):ah ((aa cI)):=bif ju C then some []else abC C
def abD:jf:=gZ [(false,(.sl .iP))] [(false,(.sl .iP),2)] (λx=>Tp x.1)
def alL:enters Tryz.prog 97/\iL Tryz.prog 97 abD:=B6 8 [] [] func97 trivial rD (t:=.iP) (g:=2) (F:=abC) λx=>by kernel_rfl
def abE(C:aa bH):ah ((aa bH)):=bif ju C then none else bif bV (([]:aa bH).length+C.length)then some (([]:aa bH)++C)else none
def Ts(C:aa bH):ah ((aa bH)):=bif ju C then some []else abE C
def abF:jf:=gZ [(false,(.sl .Event))] [(false,(.sl .Event),2)] (λx=>Ts x.1)
def alM:enters Tryz.prog 98/\iL Tryz.prog 98 abF:=B6 8 [] [] func98 trivial rD (t:=.Event) (g:=2) (F:=abE) λx=>by kernel_rfl
def abG(C:aa eJ):ah ((aa eJ)):=bif ju C then none else bif bV (([]:aa eJ).length+C.length)then some (([]:aa eJ)++C)else none
def Tt(C:aa eJ):ah ((aa eJ)):=bif ju C then some []else abG C
def abH:jf:=gZ [(false,(.sl .nE))] [(false,(.sl .nE),2)] (λx=>Tt x.1)
def alN:enters Tryz.prog 99/\iL Tryz.prog 99 abH:=B6 8 [] [] func99 trivial rD (t:=.nE) (g:=2) (F:=abG) λx=>by kernel_rfl
def alO:bC:=⟨[(1,.aJ 1 0),(2,.aJ 2 0),(3,.aJ 3 0),(36,.lf (.aF .mT 0)),(37,tI),(38,tI)],zz1,aah⟩
def alP:aa (Nat×bC):=[(2,⟨[(1,.aJ 1 0),(2,.aJ 2 0),(3,.aJ 3 0)],zz1,aah⟩)]
abbrev abI:=((aj×aj×aj×(aa cJ)×Int×Int×aj)×(au×au×(Int×Int×Int×Int×Int×Int×Int×Int×Int×Int×Int×Int×Int×Int×Int×Int×Int×Int×Int×Int×Int×Int×Bool×Int×Int×Int×Int×Int×Int×Int×Int×Int×Int×aj×Int×Int×Int×Int×Int×Int×Int×aj×Int×Int×Bool×Int×aj×Int×aj×aj×aj×aj×aj×Int×aj×aj×Int×Bool×aj×(aa Int)×(aa aP)×(aa aV)×(aa dw)×Bool×Int×Int×Int×Int×Int×Int×Int×Int×(aa cI)×(aa bH)×(aa eJ)×aj)×(aa Int)×(aa Int)×(aa dQ)×(aa Int)×(aa Int)×(aa cy)×(aa Int)×(aa Int)×(aa Int)×(aa Int)×(aa cJ)×aj))
def Et(x:abI):ah (abI⊕(((aj×aj×aj×aj)×(au×au×(Int×Int×Int×Int×Int×Int×Int×Int×Int×Int×Int×Int×Int×Int×Int×Int×Int×Int×Int×Int×Int×Int×Bool×Int×Int×Int×Int×Int×Int×Int×Int×Int×Int×aj×Int×Int×Int×Int×Int×Int×Int×aj×Int×Int×Bool×Int×aj×Int×aj×aj×aj×aj×aj×Int×aj×aj×Int×Bool×aj×(aa Int)×(aa aP)×(aa aV)×(aa dw)×Bool×Int×Int×Int×Int×Int×Int×Int×Int×(aa cI)×(aa bH)×(aa eJ)×aj)×(aa Int)×(aa Int)×(aa dQ)×(aa Int)×(aa Int)×(aa cy)×(aa Int)×(aa Int)×(aa Int)×(aa Int)×(aa cJ)×aj))⊕Empty)):=letI u3:=x.1.2.2.2;letI u1:=x.2.2.2.2;letI C:=u1.2.2.2.2;letI u2:=C.2.2.2;bif u3.2.2.1<u3.2.1 then xI u3.1 u3.2.2.1 λE=>(Es E).bind λD=>bif bV (u2.2.2.2.1.length+[D].length)then xG (((),(),(),u3.1,u3.2.1,(W6 (u3.2.2.1+1)),()),(x.2.1,x.2.2.1,x.2.2.2.1,u1.1,u1.2.1,u1.2.2.1,u1.2.2.2.1,C.1,C.2.1,C.2.2.1,u2.1,u2.2.1,u2.2.2.1,(u2.2.2.2.1++[D]),()))else none else aM (((),(),(),()),(x.2.1,x.2.2.1,x.2.2.2.1,u1.1,u1.2.1,u1.2.2.1,u1.2.2.2.1,C.1,C.2.1,C.2.2.1,u2.1,u2.2.1,u2.2.2.1,u2.2.2.2.1,()))
def alQ:KY 79 (bx f39):=⟨0,lB 0 alO alP Et,lp [abu]⟩
def Aq(C:au):ah (au):=(HJ C.box).bind λD=>(Eo C.aI).bind λy2=>(Ep C.ready).bind λy3=>(Er C.array).bind λy4=>(Mq C.spare.map).bind λy5=>(Cl C.aB).bind λy6=>bR Et (((),(),(),C.bB,(C.bB.length:Int),0,()),((⟨⟨⟨0,0,0,0⟩,⟨0,0,0,0,0,0,0,0,0,0,0,0,0,0,0,0,0⟩,⟨0,false⟩,0,0,0,⟨0,0⟩⟩,⟨⟨0,0,0,0,0,([]:aa Int),⟨0,0⟩⟩,⟨0,0,0,0,0,([]:aa Int),⟨0,0⟩⟩,false⟩,0,⟨([]:aa dQ),0⟩,⟨([]:aa Int),([]:aa Int)⟩,⟨([]:aa cy),([]:aa Int),([]:aa Int)⟩,⟨0,([]:aa Int)⟩,⟨([]:aa Int),0,false⟩,([]:aa cJ),([]:aa Int),([]:aa aP),([]:aa aV),([]:aa dw),⟨false,0,0⟩,⟨0,0,0⟩,⟨0,0,0⟩,([]:aa cI),([]:aa bH),([]:aa eJ)⟩:au),C,(C.config.ak.bM,C.config.ak.aE,C.config.ak.rows,C.config.ak.aR,C.config.bP.qQ,C.config.bP.rp,C.config.bP.jG,C.config.bP.rT,C.config.bP.om,C.config.bP.jZ,C.config.bP.rU,C.config.bP.rV,C.config.bP.mQ,C.config.bP.wr,C.config.bP.rW,C.config.bP.rX,C.config.bP.vh,C.config.bP.tL,C.config.bP.tM,C.config.bP.xp,C.config.bP.xs,C.config.mapping.order,C.config.mapping.hash,C.config.cS,C.config.interval,C.config.gU,C.config.dO.bu,C.config.dO.bg,D.bT.eI,D.bT.cap,D.bT.dG,D.bT.low,D.bT.high,(),D.bT.bF.down,D.bT.bF.sleep,D.next.eI,D.next.cap,D.next.dG,D.next.low,D.next.high,(),D.next.bF.down,D.next.bF.sleep,D.waits,C.now,(),y2.aN,(),(),(),(),(),C.spare.cS,(),(),y6.wait,y6.dJ,(),C.guard,C.pending,C.queue,C.shares,C.drain.on,C.drain.low,C.drain.high,C.aN.state,C.aN.since,C.aN.idle,C.eg.next,C.eg.every,C.eg.wait,C.errors,C.trace,C.cc,()),D.bT.weights,D.next.weights,y2.aE,y3.last,y3.aZ,y4.cells,y4.bu,y4.bg,y5,y6.aD,([]:aa cJ),())) λnU=>letI E:=nU.2.2.1;letI u4:=nU.2.2.2;letI u16:=u4.1.2.2;letI Y:=u4.2.2.2.2.2;letI Z:=Y.2.2.2;letI u7:=u16.2.2.2;letI Mr:=u7.2.2.2;letI u2:=Mr.2.2.2;letI I:=u2.2.2.2;letI u5:=I.2.2.2.2;letI O:=u5.2.2.2.2;letI T:=O.2.2.2.2;letI sX:=T.2.2.2.2;letI Tu:=sX.2.2.2.2;letI u3:=Tu.2.2;letI u8:=u3.2.2.2.2.2.2;letI u15:=u8.2.2.2.2.2.2.2.2.2.2.2;letI u1:=u15.2.2.2;letI u6:=u1.2.2.2.2.2.2.2;letI U:=u6.2.2.2.2;(Mq E.guard).bind λoS=>(Tl E.pending).bind λvR=>(Tn E.queue).bind λkW=>(To E.shares).bind λnT=>(Tp E.errors).bind λmC=>(Ts E.trace).bind λqj=>(Tt E.cc).bind λoT=>some (⟨⟨⟨u4.1.1,u4.1.2.1,u16.1,u16.2.1⟩,⟨u16.2.2.1,u7.1,u7.2.1,u7.2.2.1,Mr.1,Mr.2.1,Mr.2.2.1,u2.1,u2.2.1,u2.2.2.1,I.1,I.2.1,I.2.2.1,I.2.2.2.1,u5.1,u5.2.1,u5.2.2.1⟩,⟨u5.2.2.2.1,O.1⟩,O.2.1,O.2.2.1,O.2.2.2.1,⟨T.1,T.2.1⟩⟩,⟨⟨T.2.2.1,T.2.2.2.1,sX.1,sX.2.1,sX.2.2.1,u4.2.1,⟨Tu.1,Tu.2.1⟩⟩,⟨u3.1,u3.2.1,u3.2.2.1,u3.2.2.2.1,u3.2.2.2.2.1,u4.2.2.1,⟨u8.1,u8.2.1⟩⟩,u8.2.2.1⟩,u8.2.2.2.1,⟨u4.2.2.2.1,u8.2.2.2.2.2.1⟩,⟨u4.2.2.2.2.1,Y.1⟩,⟨Y.2.1,Y.2.2.1,Z.1⟩,⟨u15.1,Z.2.1⟩,⟨Z.2.2.1,u1.1,u1.2.1⟩,Z.2.2.2.1,oS,vR,kW,nT,⟨u6.1,u6.2.1,u6.2.2.1⟩,⟨u6.2.2.2.1,U.1,U.2.1⟩,⟨U.2.2.1,U.2.2.2.1,U.2.2.2.2.1⟩,mC,qj,oT⟩:au)
def HL:=dg uG [(true,.dV,4)] (cw Aq) 79 [abm,abn,abo,abq,⟨91,.p abt,alH⟩,Tj,⟨94,.p abw,alI⟩,⟨95,.p aby,alJ⟩,⟨96,.p abA,alK⟩,⟨97,.p abD,alL⟩,⟨98,.p abF,alM⟩,⟨99,.p abH,alN⟩] [alQ] func39
def Eu(I:aH)(C:ke)(D:Int):ah (Nat×Nat):=letI E:=W6 (I.rows-C.cS);letI u2:=W6 (D*E);letI u1:=W6 ((W6 (D+1))*E);if 0 <= u2/\u2 <= u1/\u1 <= (C.map.length:Int)then some (u2.toNat,u1.toNat)else none
def Tv:BJ:=SA [(true,.fG),(true,.rY),(false,.int)] 1 1 .int (λx=>Eu x.1 x.2.1 x.2.2.1)
def abJ:enters Tryz.prog 128/\KR Tryz.prog 128 Tv:=aki (N:=23) (fn:=f128) (code:=bx f128) (Φ:=(lM [])) (Λ:=(jA [])) (t:=.int) func128 (by kernel_rfl) (by kernel_rfl) (by kernel_rfl) (by kernel_rfl) (by kernel_rfl) (by kernel_rfl) (by kernel_rfl) (by kernel_rfl) (uD _ trivial) rD (λx=>by kernel_rfl)
abbrev abK:=((Int×Int×(aa Int)×Int×Int×aj)×(aj))
def HM(x:abK):ah (abK⊕(((Int×aj)×(aj))⊕Empty)):=letI C:=x.1.2.2;letI u1:=C.2.2.1;bif u1<C.2.1 then xI C.1 u1 λD=>bif (D==x.1.1)then xG ((x.1.1,(W6 (x.1.2.1+1)),C.1,C.2.1,(W6 (u1+1)),()),())else xG ((x.1.1,x.1.2.1,C.1,C.2.1,(W6 (u1+1)),()),())else aM ((x.1.2.1,()),())
def alR:KY 21 (bx f129):=⟨0,lB 0 ⟨[(1,tI),(5,tI),(8,.lf (.aF .int 0)),(9,tI),(10,tI)],[],[]⟩ [(2,Hg)] HM,lp []⟩
def Ms(C:aa Int)(D:Int):ah (Int):=bR HM ((D,0,C,(C.length:Int),0,()),()) λE=>some E.1.1
def alS:=dg LR gd (di Ms) 21 [] [alR] func129
abbrev abL:=((aj×aj×Int×Int×(aa Int)×(aa Int)×Int×Int×aj)×((Int×Int×Int×Int×aj)×(Int×(aa Int)×aj)×aj))
def Ev(x:abL):ah (abL⊕(((Bool×aj)×(aj))⊕(((aj×aj×Int×Int×aj)×((Int×Int×Int×Int×aj)×(Int×(aa Int)×aj)×aj))⊕Empty))):=letI u2:=x.1.2.2;letI u1:=u2.2.2;letI u3:=u1.2.2.2.1;letI D:=xG (((),(),u2.1,u2.2.1,u1.1,u1.2.1,u1.2.2.1,(W6 (u3+1)),()),(x.2.1,x.2.2.1,()));bif u3<u1.2.2.1 then xI u1.2.1 u3 λC=>bif (C != u3)then (bU C u2.1 (W6 (x.2.1.2.2.1-1))).bind λE=>bif (!E)then aM ((false,()),())else (Ms u1.1 C).bind λI=>bif I > 1 then aM ((false,()),())else D else D else bG (((),(),u2.1,u2.2.1,()),(x.2.1,x.2.2.1,()))
def alT:KY 71 (yg (bx f57) 0):=⟨2,lB 2 ⟨[(2,.aJ 2 0),(3,.aJ 3 0),(7,tI),(8,tI),(9,.lf (.aF .int 0)),(45,.lf (.aF .int 0)),(46,tI),(47,tI)],aaw,[]⟩ [(1,sU),(4,aax)] Ev,lp [dM,alS]⟩
abbrev abM:=((aj×aj×Int×Int×aj)×((Int×Int×Int×Int×aj)×(Int×(aa Int)×aj)×aj))
def HN(x:abM):ah (abM⊕(((Bool×aj)×(aj))⊕(((aj)×(aj))⊕Empty))):=letI u3:=x.1.2.2.2.1;letI u2:=x.2.2.1;letI u1:=(⟨x.2.1.1,x.2.1.2.1,x.2.1.2.2.1,x.2.1.2.2.2.1⟩:aH);(jB u1).bind λI=>bif u3<I then (Eu u1 (⟨u2.1,u2.2.1⟩:ke) u3).bind λC=>letI E:=(u2.2.1.take C.2).drop C.1;bif Nat.ble C.1 C.2&&Nat.ble C.2 u2.2.1.length then cZ Ev (((),(),x.1.2.2.1,u3,E,E,(E.length:Int),0,()),(x.2.1,u2,())) (λO=>aM ((O.1.1,()),())) λD=>xG (((),(),D.1.2.2.1,(W6 (D.1.2.2.2.1+1)),()),(D.2.1,D.2.2.1,()))else none else bG ((),())
def alU:KY 71 (bx f57):=⟨0,lB 0 aax [(1,sU),(2,mA)] HN,lq [lN,⟨128,.v Tv,abJ⟩] [alT]⟩
def HO(C:aH)(D:ke):ah (Bool):=(Ef C D.cS).bind λE=>bif (!E.2)then some false else bif ((D.map.length:Int) != (E.1.map.length:Int))then some false else cZ HN (((),(),(W6 (C.rows-D.cS)),0,()),((C.bM,C.aE,C.rows,C.aR,()),(D.cS,D.map,()),())) (λI=>some I.1.1) λO=>some true
def abN:=dg [(true,.fG),(true,.rY)] dP (di HO) 71 [S9] [alU] func57
def Cm(C:aH)(D:ke):ah (aH):=(HO C D).bind λE=>bif (!E)then some (⟨0,0,0,0⟩:aH)else some (⟨C.bM,C.aE,(W6 (C.rows-D.cS)),C.aR⟩:aH)
def Mt:=bQ [(true,.fG),(true,.rY)] [(true,.fG,0)] (di Cm) 17 [abN] func44
abbrev abO:=((aj×(aa dQ)×Int×Int×aj)×((aa Int)×aj))
def Ew(x:abO):ah (abO⊕(((aj×aj)×((aa Int)×aj))⊕Empty)):=letI u1:=x.1.2.2.2.1;letI C:=((),x.1.2.1,x.1.2.2.1,(W6 (u1+1)),());bif u1<x.1.2.2.1 then xI x.1.2.1 u1 λD=>bif D.open_ then bif bV (x.2.1.length+([u1]:aa Int).length)then xG (C,((x.2.1++([u1]:aa Int)),()))else none else xG (C,(x.2.1,()))else aM (((),()),(x.2.1,()))
def alV:KY 23 (bx f125):=⟨0,lB 0 ⟨[(3,.lf (.own 6)),(8,.lf (.aF .jH 0)),(9,tI),(10,tI)],[(6,.sl .int 2)],[]⟩ [(2,aaD)] Ew,lp []⟩
def As(C:bJ):ah ((aa Int)):=bR Ew (((),C.aE,(C.aE.length:Int),0,()),(([]:aa Int),())) λD=>some D.2.1
def Mv:=dg [(true,.kN)] vQ (cw As) 23 [] [alV] func125
end Go.Proofs.YtgjfmljpdnnihaaGreat
