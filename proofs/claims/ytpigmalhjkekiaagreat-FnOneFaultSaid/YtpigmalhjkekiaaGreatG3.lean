/-
  Functions of the program as plain functions of contents, and that the code computes them. Nothing here is a claim.
-/
import Derived.Test.YtpigmalhjkekiaaGreatVZ
import Derived.Test.YtpigmalhjkekiaaGreatRows
import Derived.Test.YtpigmalhjkekiaaGreatRep
import Derived.Test.YtpigmalhjkekiaaGreatG1
import Derived.Test.YtpigmalhjkekiaaGreatG2
namespace Go.Proofs.YtpigmalhjkekiaaGreat
set_option linter.defProp false
open Go.RowKit Go.Proofs.Tryz
set_option linter.unusedVariables false
set_option maxRecDepth 100000
def Jp(C:nR):aj (Bool):=(cc C.order 0 2).bind λD=>some D
def aed:=bD [(true,.s7)] cG (bP Jp) 6 [dW] func153
def zf(C:c8):aj (Int):=(Fa C).bind λD=>bif (!D)then some 0 else some (W6 (2*(W6 ((W6 ((W6 ((W6 ((W6 ((W6 ((W6 ((W6 ((W6 (C.sZ+C.xp))+C.ji))+C.wr))+C.mV))+C.rp))+C.sY))+C.p7))+(W6 (8*C.nS))))+16))))
def ape:=bD IK fV (bP zf) 35 [VZ] func154
def OI(C:eo):aj (Bool):=(E8 C.ak C.bL).bind λD=>(qI C.ak).bind λE=>bif E then (Fa C.bQ).bind λI=>bif I then (Jp C.mapping).bind λO=>bif O then bif D.2 then (zf C.bQ).bind λT=>(cc C.interval T 10000).bind λU=>bif U then (cc C.gV 1 16).bind λY=>bif Y then (cc C.di.bh (W6 (6*C.interval)) 100000).bind λZ=>bif Z then (cc C.di.aY 0 100000).bind λy9=>some y9 else some false else some false else some false else some false else some false else some false else some false
def apf:=bD [(true,.Config)] cG (bP OI) 57 [VY,dW,uc,VZ,aed,ape] func75
abbrev aee:=(((aa cQ)×(aa cQ)×Int×Int×ah)×(ah))
def Jq(x:aee):aj (aee⊕(((Bool×ah)×(ah))⊕((((aa cQ)×ah)×(ah))⊕Empty))):=letI C:=x.1.2.2;bif C.2.1<C.1 then xI x.1.2.1 C.2.1 λD=>(cc D.weight 1 9).bind λE=>bif (!E)then aE ((false,()),())else (cc D.fP 0 D.weight).bind λI=>bif (!I)then aE ((false,()),())else xG ((x.1.1,x.1.2.1,C.1,(W6 (C.2.1+1)),()),())else bk ((x.1.1,()),())
def apg:KY 27 (bx f81):=⟨0,lB 0 ⟨[(0,.lf (.aH .gW 0)),(5,.lf (.aH .gW 0)),(6,tI),(7,tI)],[],[]⟩ [(1,oU),(2,adh)] Jq,lp [dW]⟩
def Fb(C:aa cQ):aj (Bool):=bY Jq ((C,C,(C.length:Int),0,()),()) (λD=>some D.1.1) λE=>(cc (E.1.1.length:Int) 1 4).bind λI=>some I
def V0:=cM [(false,(.sl .gW))] cG (bP Fb) 27 [dW] [apg] func81
abbrev aef:=((ah×(aa Int)×Int×Int×ah)×((aa cQ)×ah))
def Jr(x:aef):aj (aef⊕(((ah×ah)×((aa cQ)×ah))⊕Empty)):=letI u1:=x.1.2.2;bif u1.2.1<u1.1 then xI x.1.2.1 u1.2.1 λC=>letI D:=([(⟨C,C⟩:cQ)]:aa cQ);bif bX (x.2.1.length+D.length)then xG (((),x.1.2.1,u1.1,(W6 (u1.2.1+1)),()),((x.2.1++D),()))else none else aE (((),()),(x.2.1,()))
def aph:KY 25 (bx f32):=⟨0,lB 0 ⟨[(4,.lf (.own 7)),(8,.lf (.aH .int 0)),(9,tI),(10,tI)],[(7,.sl .gW 2)],[]⟩ [(2,⟨[(4,.lf (.own 7))],[(7,.sl .gW 2)],[]⟩)] Jr,lp []⟩
def zg(C:aa Int):aj ((aa cQ)×Bool):=bR Jr (((),C,(C.length:Int),0,()),(([]:aa cQ),())) λD=>(Fb D.2.1).bind λE=>bif (!E)then some ([],false)else some (D.2.1,true)
def V1:=cM ze [(false,(.sl .gW),2),(false,.bool,0)] (bP zg) 25 [V0] [aph] func32
def C3(C:lM):aj (Bool):=bif C.low >= 0 then bif C.low<C.high then some (C.high <= 12)else some false else some false
def OJ:=bD [(true,.s8)] cG (bP C3) 18 [] func103
def Js(C:uK):aj (Bool):=(cc C.down 1 10000).bind λD=>bif D then bif C.sleep > C.down then some (C.sleep <= 20000)else some false else some false
def aeg:=bD [(true,.v7)] cG (bP Js) 18 [dW] func155
def Fc(C:cR):aj (Bool):=(zg C.weights).bind λE=>letI D:=(cc C.cap 0 100000).bind λI=>bif I then (cc C.dn 3 1000).bind λO=>bif O then (C3 (⟨false,C.low,C.high⟩:lM)).bind λT=>bif T then bif ((C.weights.length:Int)==4)then bif E.2 then (Js C.cZ).bind λU=>some U else some false else some false else some false else some false else some false;bif (C.eK==0)then D else bif (C.eK==1)then D else some false
def V2:=bD EY cG (bP Fc) 51 [V1,dW,OJ,aeg] func76
def wU(C:Int):aj (Int):=(cc C 3 1000).bind λD=>bif (!D)then some 0 else some (W6 ((W6 (2*C))+2))
def api:=bD ny fV (bP wU) 9 [dW] func77
def qJ(C:eo)(D:cR):aj (Bool):=letI E:=W6 (C.bQ.ji+C.bQ.rp);(OI C).bind λI=>bif I then (Fc D).bind λO=>bif O then (wU D.dn).bind λT=>bif (W6 (T+2)) <= C.di.aY then if E=0 then none else some ((W6 ((W6 (C.gV+1))*D.dn)) > (W6 ((W6 ((W6 (5*C.interval)).tdiv E))+2)))else some false else some false else some false
def V3:=bD NP cG (cF qJ) 42 [apf,V2,api] func24
def OL(D:aF):aj (cg):=(qI D).bind λE=>bif (!E)then some (⟨[],0⟩:cg)else (lC D).bind λC=>if 0 <= C/\C <= C/\C<1073741824 then some (⟨(List.replicate C.toNat (⟨false,0⟩:gN)),0⟩:cg)else none
def apj:=bD ua [(true,.kV,2)] (bP OL) 11 [nA,uc] func25
abbrev aeh:=((ah×ah×Int×Int×ah)×((ah×ah×ah)×(ah×ah×ah)×(aa Int)×(aa Int)×(aa Int)×(aa Int)×ah))
def Jt(x:aeh):aj (aeh⊕(((ah×ah×ah)×((ah×ah×ah)×(ah×ah×ah)×(aa Int)×(aa Int)×(aa Int)×(aa Int)×ah))⊕Empty)):=letI u2:=x.1.2.2.2.1;letI u1:=((),(),());letI C:=x.2.2.2.2;bif u2<x.1.2.2.1 then xL C.2.1 u2 λD=>xG (((),(),x.1.2.2.1,(W6 (u2+1)),()),(u1,u1,x.2.2.2.1,C.1,(C.2.1.set u2.toNat (-1:Int)),C.2.2.1,()))else aE (u1,(u1,u1,x.2.2.2.1,C.1,C.2.1,C.2.2.1,()))
def apk:KY 27 (bx f26):=⟨0,lB 0 ⟨[(2,.aG 2 0),(3,.aG 3 0),(17,tI),(18,tI)],acQ,[]⟩ [(2,⟨[(2,.aG 2 0),(3,.aG 3 0)],acQ,[]⟩)] Jt,lp []⟩
def OM(D:aF):aj (ef):=(qI D).bind λI=>bif (!I)then some (⟨[],[]⟩:ef)else (lC D).bind λO=>letI C:=W6 (9*(W6 (O+1)));if 0 <= C/\C <= C/\C<1073741824 then bR Jt (((),(),((List.replicate C.toNat (0:Int)).length:Int),0,()),(((),(),()),((),(),()),([]:aa Int),([]:aa Int),(List.replicate C.toNat (0:Int)),([]:aa Int),())) λE=>some (⟨E.2.2.2.2.2.1,E.2.2.2.2.2.2.1⟩:ef)else none
def apl:=cM ua [(true,.oE,2)] (bP OM) 27 [nA,uc] [apk] func26
def ud(C:aF):aj (Int):=(lC C).bind λD=>some (W6 ((W6 (D*C.rows))*C.aQ))
def Fe:=bD ua fV (bP ud) 11 [nA] func41
def C4(C:Int):aj (Bool):=(cc C 0 4294967295).bind λD=>some D
def V4:=bD ny cG (bP C4) 5 [dW] func156
def sK(C:Int):aj (Bool):=(cc C 0 15).bind λD=>some D
def Ju:=bD ny cG (bP sK) 5 [dW] func144
abbrev aei:=(((aa Int)×Int×(aa Int)×Int×Int×ah)×(ah))
def A4(x:aei):aj (aei⊕(((Bool×ah)×(ah))⊕((((aa Int)×Int×ah)×(ah))⊕Empty))):=letI C:=x.1.2.2;bif C.2.2.1<C.2.1 then xI C.1 C.2.2.1 λD=>(sK D).bind λE=>bif (!E)then aE ((false,()),())else xG ((x.1.1,x.1.2.1,C.1,C.2.1,(W6 (C.2.2.1+1)),()),())else bk ((x.1.1,x.1.2.1,()),())
def apm:KY 21 (bx f163):=⟨0,lB 0 ⟨[(0,.lf (.aH .int 0)),(1,tI),(7,.lf (.aH .int 0)),(8,tI),(9,tI)],[],[]⟩ [(1,lV),(2,ada)] A4,lp [Ju]⟩
def wV(C:aa Int)(E:Int):aj (Bool):=bY A4 ((C,E,C,(C.length:Int),0,()),()) (λI=>some I.1.1) λD=>some ((D.1.1.length:Int)==D.1.2.1)
def Jv:=cM EX cG (cF wV) 21 [] [apm] func163
abbrev aej:=((Int×Int×Int×Int×ah)×(ah))
def aek(x:aej):aj (aej⊕(((Int×ah)×(ah))⊕Empty)):=letI u4:=x.1.2.1;letI u1:=x.1.2.2;letI u3:=bits .xor .i64 u1.1 x.1.1;letI u2:=W6 (u1.2.1+1);letI C:=W6 (x.1.1*2 ^ (min (1:Int).toNat IntKind.i64.bits));bif u1.2.1<4 then if u1.2.1<0 then none else bif ((bits .and .i64 (u4.fdiv (2 ^ (min u1.2.1.toNat IntKind.i64.bits))) 1)==1)then bif C > 15 then xG (((bits .xor .i64 C 19),u4,u3,u2,()),())else xG ((C,u4,u3,u2,()),())else bif C > 15 then xG (((bits .xor .i64 C 19),u4,u1.1,u2,()),())else xG ((C,u4,u1.1,u2,()),())else aE ((u1.1,()),())
def apn:KY 34 (bx f203):=⟨0,lB 0 ⟨[(0,tI),(1,tI),(5,tI),(6,tI)],[],[]⟩ [(2,IJ)] aek,lp []⟩
def iB(C D:Int):aj (Int):=(sK C).bind λE=>bif (!E)then some (-1)else (sK D).bind λI=>bif (!I)then some (-1)else bR aek ((C,D,0,0,()),()) λO=>some O.1.1
def Jw:=cM II fV (cF iB) 34 [Ju] [apn] func203
abbrev ael:=((Int×Int×Int×ah)×(ah))
def aem(x:ael):aj (ael⊕(((Int×ah)×(ah))⊕Empty)):=bif x.1.2.1 > 0 then (iB x.1.2.2.1 x.1.1).bind λC=>xG ((x.1.1,(W6 (x.1.2.1-1)),C,()),())else aE ((x.1.2.2.1,()),())
def apo:KY 22 (bx f241):=⟨0,lB 0 ⟨[(0,tI),(1,tI),(5,tI)],[],[]⟩ [(2,IJ)] aem,lp [Jw]⟩
def Jx(C D:Int):aj (Int):=(sK C).bind λE=>bif (!E)then some (-1)else (cc D 0 1000).bind λI=>bif (!I)then some (-1)else bR aem ((C,D,1,()),()) λO=>some O.1.1
def aen:=cM II fV (cF Jx) 22 [dW,Ju] [apo] func241
abbrev aeo:=(((aa Int)×ah×Int×Int×Int×(aa Int)×Int×Int×ah)×((aa Int)×ah))
def C5(x:aeo):aj (aeo⊕((((aa Int)×ah×Int×Int×ah)×((aa Int)×ah))⊕Empty)):=letI u1:=x.1.2.2;letI C:=u1.2.2;letI u2:=C.2.2.2.1;bif u2<C.2.2.1 then xI C.2.1 u2 λD=>xL x.2.1 u1.1 λE=>(Jx 2 (W6 (u2*u1.1))).bind λI=>(iB D I).bind λO=>xL x.2.1 u1.1 λT=>xG ((x.1.1,(),u1.1,u1.2.1,C.1,C.2.1,C.2.2.1,(W6 (u2+1)),()),((x.2.1.set u1.1.toNat (bits .xor .i64 E O)),()))else aE ((x.1.1,(),u1.2.1,C.1,()),(x.2.1,()))
def apq:KY 38 (zb (bx f201) 0):=⟨2,lB 2 ⟨[(0,.lf (.aH .int 0)),(3,.lf (.own 10)),(4,tI),(12,tI),(13,tI),(16,.lf (.aH .int 0)),(17,tI),(18,tI)],[(10,.sl .int 2)],[]⟩ [(4,acU)] C5,lp [Jw,aen]⟩
abbrev aep:=(((aa Int)×ah×Int×Int×ah)×((aa Int)×ah))
def Ff(x:aep):aj (aep⊕(((ah×ah)×((aa Int)×ah))⊕Empty)):=letI C:=x.1.2.2;bif C.2.1<C.1 then bR C5 ((x.1.1,(),C.2.1,C.1,C.2.1,x.1.1,(x.1.1.length:Int),0,()),(x.2.1,())) λD=>xG ((D.1.1,(),D.1.2.2.1,(W6 (D.1.2.2.2.1+1)),()),(D.2.1,()))else aE (((),()),(x.2.1,()))
def apr:KY 38 (bx f201):=⟨0,lB 0 acU [(2,⟨[(3,.lf (.own 10))],[(10,.sl .int 2)],[]⟩)] Ff,lq [] [apq]⟩
def A5(D:aa Int):aj ((aa Int)):=letI C:=(3:Int);(wV D 11).bind λE=>bif (!E)then some ([])else if 0 <= C/\C <= 3/\C<1073741824 then bR Ff ((D,(),((List.replicate C.toNat (0:Int)).length:Int),0,()),((List.replicate C.toNat (0:Int)),())) λI=>some I.2.1 else none
def V5:=cM ze vB (bP A5) 38 [Jv] [apr] func201
abbrev aeq:=((Int×Int×ah)×(ah))
def aer(x:aeq):aj (aeq⊕(((Int×ah)×(ah))⊕(((ah)×(ah))⊕Empty))):=bif x.1.2.1 <= 15 then (iB x.1.1 x.1.2.1).bind λC=>bif (C==1)then aE ((x.1.2.1,()),())else xG ((x.1.1,(W6 (x.1.2.1+1)),()),())else bk ((),())
def aps:KY 13 (bx f202):=⟨0,lB 0 adl [(1,⟨[(2,tI)],[],[]⟩),(2,iW)] aer,lp [Jw]⟩
def wW(C:Int):aj (Int):=bY aer ((C,1,()),()) (λD=>some D.1.1) λE=>some (-1)
def aes:=cM ny fV (bP wW) 13 [] [aps] func202
def Jy(E:aa Int):aj ((aa Int)):=letI u4:=(1:Int);letI u3:=(3:Int);letI u2:=(0:Int);letI u1:=(List.replicate u3.toNat u2)++E;(wV E 8).bind λY=>bif (!Y)then some ([])else if 0 <= u3/\u3 <= 3/\u3<1073741824 then bif bX ((List.replicate u3.toNat u2).length+E.length)then (A5 u1).bind λC=>xL C u2 λI=>xL C u4 λO=>xL C u2 λZ=>xL C (2:Int) λwX=>letI u5:=bits .xor .i64 Z wX;(wW 4).bind λT=>(iB 2 (bits .xor .i64 I O)).bind λmG=>(iB 5 u5).bind λqH=>(iB (bits .xor .i64 mG qH) T).bind λU=>xL u1 u4 λe21=>(iB 3 u5).bind λkJ=>(iB 5 (bits .xor .i64 I O)).bind λsL=>(iB (bits .xor .i64 kJ sL) T).bind λoe=>letI D:=(u1.set u4.toNat U).set (2:Int).toNat oe;xL (u1.set u4.toNat U) (2:Int) λON=>xL C u2 λV6=>xL D u4 λe33=>xL D (2:Int) λV7=>xL D u2 λe39=>some (D.set u2.toNat (bits .xor .i64 (bits .xor .i64 V6 e33) V7))else none else none
def apt:=bD ze vB (bP Jy) 63 [Jv,V5,aes,Jw] func157
abbrev aet:=((Int×ah×Int×ah)×((aa Int)×ah))
def Jz(x:aet):aj (aet⊕(((ah×ah)×((aa Int)×ah))⊕Empty)):=letI u1:=x.1.2.2.1;letI C:=([(bits .and .i64 (x.1.1.fdiv (2 ^ (min (W6 (4*u1)).toNat IntKind.i64.bits))) 15)]:aa Int);bif u1<8 then if (W6 (4*u1))<0 then none else bif bX (x.2.1.length+C.length)then xG ((x.1.1,(),(W6 (u1+1)),()),((x.2.1++C),()))else none else aE (((),()),(x.2.1,()))
def apu:KY 22 (bx f158):=⟨0,lB 0 ⟨[(0,tI),(3,.lf (.own 8)),(4,tI)],[(8,.sl .int 2)],[]⟩ [(2,⟨[(3,.lf (.own 8))],[(8,.sl .int 2)],[]⟩)] Jz,lp []⟩
def OO(C:Int):aj ((aa Int)):=(C4 C).bind λD=>bif (!D)then some ([])else bR Jz ((C,(),0,()),(([]:aa Int),())) λE=>some E.2.1
def apv:=cM ny vB (bP OO) 22 [V4] [apu] func158
def A6(C:Int):aj ((aa Int)):=(C4 C).bind λD=>bif (!D)then some ([])else (OO C).bind λE=>(Jy E).bind λI=>some I
def aeu:=bD ny vB (bP A6) 9 [V4,apt,apv] func79
def apw:bG:=⟨[(1,.aG 1 0),(2,.aG 2 0),(4,.aG 4 0),(5,tI)],[(1,.az ia),(2,.az IC),(4,.az [.own 90200,.own 16,.own 18]),(90100,.sl .Cell 4),(90101,.sl .int 2),(90102,.sl .int 2),(90200,.sl .Cell 4),(16,.sl .int 2),(18,.sl .int 2)],[]⟩
def apx:aa (Nat×bG):=[(2,⟨[(2,.aG 2 0),(4,.aG 4 0)],[(2,.az IC),(4,.az [.own 90200,.own 16,.own 18]),(90100,.sl .Cell 4),(90101,.sl .int 2),(90102,.sl .int 2),(90200,.sl .Cell 4),(16,.sl .int 2),(18,.sl .int 2)],[]⟩)]
abbrev aev:=((ah×ah×ah×Int×ah)×((Int×Int×Int×Int×ah)×(ah×ah×ah×ah)×(ah×ah×ah×ah)×(aa bO)×(aa Int)×(aa Int)×(aa bO)×(aa Int)×(aa Int)×ah))
def JA(x:aev):aj (aev⊕(((ah×ah×ah)×((ah×ah×ah×ah)×(ah×ah×ah×ah)×(aa bO)×(aa Int)×(aa Int)×(aa bO)×(aa Int)×(aa Int)×ah))⊕Empty)):=letI u1:=((),(),(),());letI C:=x.2.2.2.2.2;letI u2:=C.2.2;(ud (⟨x.2.1.1,x.2.1.2.1,x.2.1.2.2.1,x.2.1.2.2.2.1⟩:aF)).bind λE=>bif x.1.2.2.2.1<E then (A6 0).bind λD=>bif bX (u2.1.length+[(⟨D,false⟩:bO)].length)then xG (((),(),(),(W6 (x.1.2.2.2.1+1)),()),(x.2.1,u1,u1,x.2.2.2.2.1,C.1,C.2.1,(u2.1++[(⟨D,false⟩:bO)]),u2.2.1,u2.2.2.1,()))else none else aE (((),(),()),(u1,u1,x.2.2.2.2.1,C.1,C.2.1,u2.1,u2.2.1,u2.2.2.1,()))
def apy:KY 34 (bx f27):=⟨0,lB 0 apw apx JA,lp [Fe,aeu]⟩
def OP(D:aF):aj (cL):=(qI D).bind λE=>bif (!E)then some (⟨[],[],[]⟩:cL)else (lC D).bind λI=>letI C:=W6 (I*D.rows);if 0 <= C/\C <= C/\C<1073741824 then if 0 <= C/\C <= C/\C<1073741824 then bR JA (((),(),(),0,()),((D.cm,D.aI,D.rows,D.aQ,()),((),(),(),()),((),(),(),()),([]:aa bO),([]:aa Int),([]:aa Int),([]:aa bO),(List.replicate C.toNat (0:Int)),(List.replicate C.toNat (0:Int)),())) λO=>letI u1:=O.2.2.2.2.2.2;some (⟨u1.1,u1.2.1,u1.2.2.1⟩:cL)else none else none
def apz:=cM ua [(true,.Array,4)] (bP OP) 34 [nA,uc] [apy] func27
def ue(C:cR):aj (cR):=bif xZ C.weights then some (⟨C.eK,C.cap,C.dn,C.low,C.high,(xA C.weights),C.cZ⟩:cR)else none
def OQ:=bD EY [(true,.nT,2)] (bP ue) 9 [] func80
def OR(C:cR):aj (jE×Bool):=(Fc C).bind λD=>bif (!D)then some ((⟨⟨0,0,0,0,0,[],⟨0,0⟩⟩,⟨0,0,0,0,0,[],⟨0,0⟩⟩,false⟩:jE),false)else (ue C).bind λE=>(ue C).bind λI=>some ((⟨E,I,false⟩:jE),true)
def apA:=bD EY NM (bP OR) 13 [V2,OQ] func28
def OS(C D:Int):aj (dI×Bool):=letI E:=some ((⟨[],0,false⟩:dI),false);(cc C 1 8).bind λI=>bif (!I)then E else (cc D 2 10000).bind λO=>bif (!O)then E else if 0 <= C/\C <= C/\C<1073741824 then some ((⟨(List.replicate C.toNat (0:Int)),D,false⟩:dI),true)else none
def apB:=bD II [(true,.kW,2),(false,.bool,0)] (cF OS) 19 [dW] func30
def V8(C:Int):aj (qT×Bool):=(cc C 1 100000).bind λD=>bif (!D)then some ((⟨0,0,0⟩:qT),false)else some ((⟨0,C,C⟩:qT),true)
def apC:=bD ny [(true,.uL,0),(false,.bool,0)] (bP V8) 11 [dW] func33
def Fg(C:Int):aj (cI×Bool):=(cc C 1 16).bind λD=>bif (!D)then some ((⟨[],[],0⟩:cI),false)else (CW ([(-1)]:aa Int) C).bind λE=>if 0 <= C/\C <= C/\C<1073741824 then some ((⟨E,(List.replicate C.toNat (0:Int)),0⟩:cI),true)else none
def aew:=bD ny [(true,.mh,2),(false,.bool,0)] (bP Fg) 14 [dW,⟨82,.p acD,anN⟩] func34
def apD:bG:=⟨[(2,.aG 2 0),(3,.aG 3 0),(4,.aG 4 0),(6,.aG 6 0),(7,.aG 7 0),(8,tI)],[(2,.st .Config),(3,.az zc),(6,.az ia)],ac0⟩
def apE:aa (Nat×bG):=[(2,⟨[(4,.aG 4 0),(7,.aG 7 0)],[],ac0⟩)]
abbrev aex:=((ah×ah×ah×ah×ah×Int×ah)×(ax×ax×eo×(Int×Int×Int×Int×Int×(aa Int)×Int×Int×ah)×(Int×Int×Int×Int×ah)×ah))
def Fh(x:aex):aj (aex⊕(((ah×ah×ah)×(ax×ax×ah))⊕Empty)):=letI u1:=x.2.2.2.2;letI u2:=([u1.1.2.2.1]:aa Int);letI C:=x.2.2.1;(lC (⟨u1.2.1.1,u1.2.1.2.1,u1.2.1.2.2.1,u1.2.1.2.2.2.1⟩:aF)).bind λE=>bif x.1.2.2.2.2.2.1<E then (Fg x.2.2.2.1.gV).bind λD=>bif bX (C.bA.length+[D.1].length)then bif bX (C.guard.length+u2.length)then xG (((),(),(),(),(),(W6 (x.1.2.2.2.2.2.1+1)),()),(x.2.1,{C with bA:=(C.bA++[D.1]),guard:=(C.guard++u2)},x.2.2.2.1,u1.1,u1.2.1,()))else none else none else aE (((),(),()),(x.2.1,C,()))
def apF:KY 92 (bx f8):=⟨0,lB 0 apD apE Fh,lp [nA,aew]⟩
def OT(C:eo)(D:cR):aj (ax×Bool):=(qJ C D).bind λE=>bif (!E)then some ((⟨⟨⟨0,0,0,0⟩,⟨0,0,0,0,0,0,0,0,0,0,0,0,0,0,0,0,0⟩,⟨0,false⟩,0,0,0,⟨0,0⟩⟩,⟨⟨0,0,0,0,0,[],⟨0,0⟩⟩,⟨0,0,0,0,0,[],⟨0,0⟩⟩,false⟩,0,⟨[],0⟩,⟨[],[]⟩,⟨[],[],[]⟩,⟨0,[]⟩,⟨[],0,false⟩,[],[],[],[],[],⟨false,0,0⟩,⟨0,0,0⟩,⟨0,0,0⟩,[],[],[]⟩:ax),false)else (OL C.ak).bind λI=>(OM C.ak).bind λO=>(OP C.ak).bind λT=>(OR D).bind λU=>(E8 C.ak C.bL).bind λY=>(lC C.ak).bind λZ=>(OS Z C.interval).bind λy8=>(zg D.weights).bind λy9=>(V8 10).bind λod=>bR Fh (((),(),(),(),(),0,()),((⟨⟨⟨0,0,0,0⟩,⟨0,0,0,0,0,0,0,0,0,0,0,0,0,0,0,0,0⟩,⟨0,false⟩,0,0,0,⟨0,0⟩⟩,⟨⟨0,0,0,0,0,([]:aa Int),⟨0,0⟩⟩,⟨0,0,0,0,0,([]:aa Int),⟨0,0⟩⟩,false⟩,0,⟨([]:aa gN),0⟩,⟨([]:aa Int),([]:aa Int)⟩,⟨([]:aa bO),([]:aa Int),([]:aa Int)⟩,⟨0,([]:aa Int)⟩,⟨([]:aa Int),0,false⟩,([]:aa cI),([]:aa Int),([]:aa aO),([]:aa aU),([]:aa cQ),⟨false,0,0⟩,⟨0,0,0⟩,⟨0,0,0⟩,([]:aa cr),([]:aa dO),([]:aa ey)⟩:ax),(⟨C,U.1,0,I,O,T,Y.1,y8.1,([]:aa cI),([]:aa Int),([]:aa aO),([]:aa aU),y9.1,⟨false,D.low,D.high⟩,⟨0,0,0⟩,od.1,([]:aa cr),([]:aa dO),([]:aa ey)⟩:ax),C,(D.eK,D.cap,D.dn,D.low,D.high,D.weights,D.cZ.down,D.cZ.sleep,()),(C.ak.cm,C.ak.aI,C.ak.rows,C.ak.aQ,()),())) λkK=>some (kK.2.2.1,true)
def apG:=cM NP IF (cF OT) 92 [V3,apj,apl,apz,apA,VY,apB,nA,V1,apC] [apF] func8
def Fi(C:jE):aj (jE):=(ue C.bW).bind λD=>(ue C.next).bind λE=>some (⟨D,E,C.waits⟩:jE)
def V9:=bD [(true,.s9)] [(true,.s9,2)] (bP Fi) 12 [OQ] func84
def Fj(C:cg):aj (cg):=bif xZ C.aI then some (⟨(xA C.aI),C.aR⟩:cg)else none
def aey:=bD [(true,.kV)] [(true,.kV,2)] (bP Fj) 9 [] func85
def Fk(C:ef):aj (ef):=bif xZ C.last then bif xZ C.bg then some (⟨(xA C.last),(xA C.bg)⟩:ef)else none else none
def aez:=bD [(true,.oE)] [(true,.oE,2)] (bP Fk) 12 [] func86
def JB(C:bO):aj (bO):=bif xZ C.symbols then some (⟨(xA C.symbols),C.kj⟩:bO)else none
def aeA:=bD [(true,.Cell)] [(true,.Cell,2)] (bP JB) 9 [] func160
def apH:bG:=⟨[(2,.aG 2 0),(3,.aG 3 0),(16,.lf (.aH .Cell 0)),(17,tI),(18,tI)],acG,[]⟩
def apI:aa (Nat×bG):=[(2,⟨[(2,.aG 2 0),(3,.aG 3 0)],acG,[]⟩)]
abbrev aeB:=((ah×ah×(aa bO)×Int×Int×ah)×((ah×ah×ah×ah)×(ah×ah×ah×ah)×(aa bO)×(aa Int)×(aa Int)×(aa bO)×(aa Int)×(aa Int)×ah))
def JC(x:aeB):aj (aeB⊕(((ah×ah×ah)×((ah×ah×ah×ah)×(ah×ah×ah×ah)×(aa bO)×(aa Int)×(aa Int)×(aa bO)×(aa Int)×(aa Int)×ah))⊕Empty)):=letI u3:=x.2.2.2;letI u2:=x.1.2.2;letI u1:=((),(),(),());letI C:=u3.2.2;bif u2.2.2.1<u2.2.1 then xI u2.1 u2.2.2.1 λE=>(JB E).bind λD=>bif bX (C.2.1.length+[D].length)then xG (((),(),u2.1,u2.2.1,(W6 (u2.2.2.1+1)),()),(u1,u1,u3.1,u3.2.1,C.1,(C.2.1++[D]),C.2.2.1,C.2.2.2.1,()))else none else aE (((),(),()),(u1,u1,u3.1,u3.2.1,C.1,C.2.1,C.2.2.1,C.2.2.2.1,()))
def apJ:KY 31 (bx f87):=⟨0,lB 0 apH apI JC,lp [aeA]⟩
def C6(C:cL):aj (cL):=bif xZ C.bh then bif xZ C.aY then bR JC (((),(),C.cells,(C.cells.length:Int),0,()),(((),(),(),()),((),(),(),()),([]:aa bO),([]:aa Int),([]:aa Int),([]:aa bO),(xA C.bh),(xA C.aY),())) λE=>letI D:=E.2.2.2.2.2.2;some (⟨D.1,D.2.1,D.2.2.1⟩:cL)else none else none
def Wa:=cM [(true,.Array)] [(true,.Array,4)] (bP C6) 31 [] [apJ] func87
def aeC(C:aa Int):aj ((aa Int)):=bif jG C then none else bif bX (([]:aa Int).length+C.length)then some (([]:aa Int)++C)else none
def OU(C:aa Int):aj ((aa Int)):=bif jG C then some []else aeC C
def aeD:jH:=iL [(false,(.sl .int))] [(false,(.sl .int),2)] (λx=>OU x.1)
def apK:enters Tryz.prog 88/\jl Tryz.prog 88 aeD:=CV 8 [] [] func88 trivial sI (t:=.int) (g:=2) (F:=aeC) λx=>by kernel_rfl
def zh(C:dI):aj (dI):=bif xZ C.aB then some (⟨(xA C.aB),C.wait,C.dP⟩:dI)else none
def OV:=bD [(true,.kW)] [(true,.kW,2)] (bP zh) 9 [] func89
def Fl(C:cI):aj (cI):=bif xZ C.rows then bif xZ C.counts then some (⟨(xA C.rows),(xA C.counts),C.eJ⟩:cI)else none else none
def aeE:=bD [(true,.mh)] [(true,.mh,2)] (bP Fl) 14 [] func90
def aeF(C:aa aO):aj ((aa aO)):=bif jG C then none else bif bX (([]:aa aO).length+C.length)then some (([]:aa aO)++C)else none
def Wb(C:aa aO):aj ((aa aO)):=bif jG C then some []else aeF C
def aeG:jH:=iL [(false,(.sl .Addr))] [(false,(.sl .Addr),2)] (λx=>Wb x.1)
def apL:enters Tryz.prog 91/\jl Tryz.prog 91 aeG:=CV 8 [] [] func91 trivial sI (t:=.Addr) (g:=2) (F:=aeF) λx=>by kernel_rfl
def aeH(C:aa aU):aj ((aa aU)):=bif jG C then none else bif bX (([]:aa aU).length+C.length)then some (([]:aa aU)++C)else none
def Wc(C:aa aU):aj ((aa aU)):=bif jG C then some []else aeH C
def aeI:jH:=iL [(false,(.sl .ez))] [(false,(.sl .ez),2)] (λx=>Wc x.1)
def apM:enters Tryz.prog 92/\jl Tryz.prog 92 aeI:=CV 8 [] [] func92 trivial sI (t:=.ez) (g:=2) (F:=aeH) λx=>by kernel_rfl
end Go.Proofs.YtpigmalhjkekiaaGreat
