/-
  Functions of the program as plain functions of contents, and that the code computes them. Nothing here is a claim.
-/
import Derived.Test.YthmgjjfedieljaaGreatDoorVZ
import Derived.Test.YthmgjjfedieljaaGreatDoorRows
import Derived.Test.YthmgjjfedieljaaGreatDoorExt
import Derived.Test.YthmgjjfedieljaaGreatDoorG1
import Derived.Test.YthmgjjfedieljaaGreatDoorG2
import Derived.Test.YthmgjjfedieljaaGreatDoorG3
import Derived.Test.YthmgjjfedieljaaGreatDoorG4
namespace Go.Proofs.YthmgjjfedieljaaGreatDoor
set_option linter.defProp false
open Go.RowKit Go.Proofs.Tryz
set_option linter.unusedVariables false
set_option maxRecDepth 100000
def MR(C:bA):ah ((dy)×(bA×af)):=(abP).bind λZ=>(eC C 2).bind λF=>(x8 (⟨C.b,F.2.1.i,F.2.1.h⟩:bA) ([0,10,60,200]:aa Int)).bind λI=>(eC (⟨C.b,I.2.1.i,I.2.1.h⟩:bA) 6).bind λL=>(eC (⟨C.b,L.2.1.i,L.2.1.h⟩:bA) 3).bind λD=>(eC (⟨C.b,D.2.1.i,D.2.1.h⟩:bA) 4).bind λO=>(eC (⟨C.b,O.2.1.i,O.2.1.h⟩:bA) 4).bind λE=>(eC (⟨C.b,E.2.1.i,E.2.1.h⟩:bA) 4).bind λT=>xL Z.weights E.1 λML=>(eC (⟨C.b,T.2.1.i,T.2.1.h⟩:bA) 20).bind λU=>(eC (⟨C.b,U.2.1.i,U.2.1.h⟩:bA) 60).bind λY=>some ((⟨F.1,I.1,(W6 (3+L.1)),D.1,(W6 ((W6 (D.1+1))+O.1)),(Z.weights.set E.1.toNat (W6 (1+T.1))),⟨(W6 (5+U.1)),(W6 (60+Y.1))⟩⟩:dy),((⟨C.b,Y.2.1.i,Y.2.1.h⟩:bA),()))
def aoh:=kj xW [(true,.kF,2)] (bS MR) 43 [qM,SU,aog] func57
def HP(D:bA):ah ((dy)×(bA×af)):=(MR D).bind λC=>(eC (⟨D.b,C.2.1.i,C.2.1.h⟩:bA) 10).bind λE=>some ((⟨C.1.eV,C.1.cap,(W6 (8+E.1)),C.1.low,C.1.high,C.1.weights,C.1.dQ⟩:dy),((⟨D.b,E.2.1.i,E.2.1.h⟩:bA),()))
def abQ:=kj xW [(true,.kF,2)] (bS HP) 11 [qM,aoh] func29
def MS(C:bA)(D:aL):ah ((aG)×(bA×af)):=(kV D).bind λL=>(eC C L).bind λE=>(eC (⟨C.b,E.2.1.i,E.2.1.h⟩:bA) D.rows).bind λF=>(eC (⟨C.b,F.2.1.i,F.2.1.h⟩:bA) D.aK).bind λI=>some ((⟨E.1,F.1,I.1⟩:aG),((⟨C.b,I.2.1.i,I.2.1.h⟩:bA),()))
def aoi:=kj [.p .qh 0 0,.v true .gj] [(true,.Addr,0)] (cz MS) 18 [qM,ko] func108
def MT(C:bA)(U:Int):ah ((aP)×(bA×af)):=(eC C 60).bind λD=>(eC (⟨C.b,D.2.1.i,D.2.1.h⟩:bA) 3).bind λE=>(eC (⟨C.b,E.2.1.i,E.2.1.h⟩:bA) U).bind λF=>(eC (⟨C.b,F.2.1.i,F.2.1.h⟩:bA) 50).bind λI=>(Au (⟨C.b,I.2.1.i,I.2.1.h⟩:bA) 2).bind λL=>letI T:=(⟨C.b,L.2.1.i,L.2.1.h⟩:bA);bif L.1 then (As T).bind λO=>some ((⟨(W6 (1+D.1)),E.1,F.1,true,O.1,I.1⟩:aP),((⟨C.b,O.2.1.i,O.2.1.h⟩:bA),()))else some ((⟨(W6 (1+D.1)),E.1,F.1,false,0,I.1⟩:aP),(T,()))
def aoj:=kj SM [(true,.eI,0)] (cz MT) 24 [ZN,qM,LB] func109
def MU(C:bA)(E:eH)(x2:Int):ah ((iK)×(bA×af)):=letI u3:=W6 (E.av.rows-E.bC);(sj E.av).bind λy1=>if E.av.rows=0 then none else (let O:Int -> Int -> Int -> Int -> Bool -> Int -> Int -> Int -> Int -> Int -> Int -> Int -> Int -> Int -> ah ((iK)×(bA×af)):=λAI j19 HQ Tt j22 j23 j24 j25 j26 Tv MV MW Di j31=>some ((⟨AI,⟨j19,HQ,Tt,j22,j23,j24⟩,j25,j26,⟨Tv,MV,MW⟩,⟨0,0,0,0,0,[],⟨0,0⟩⟩⟩:iK),((⟨C.b,Di,j31⟩:bA),()));(eC C 12).bind λF=>letI T:=(⟨C.b,F.2.1.i,F.2.1.h⟩:bA);(let yh:Bool -> ah ((iK)×(bA×af)):=λj3=>bif j3 then (x8 T ([1,3,10,20,40]:aa Int)).bind λU=>(O 2 0 0 0 false 0 0 U.1 0 0 0 0 U.2.1.i U.2.1.h)else bif (F.1==2)then (MS T E.av).bind λI=>(eC (⟨C.b,I.2.1.i,I.2.1.h⟩:bA) 11).bind λY=>(eC (⟨C.b,Y.2.1.i,Y.2.1.h⟩:bA) 16).bind λZ=>(O 3 0 0 0 false 0 0 Z.1 Y.1 I.1.az I.1.row I.1.bL Z.2.1.i Z.2.1.h)else bif (F.1==3)then (x8 T ([4,5,6,2]:aa Int)).bind λy8=>(eC (⟨C.b,y8.2.1.i,y8.2.1.h⟩:bA) 2).bind λy9=>(kV E.av).bind λpX=>(eC (⟨C.b,y9.2.1.i,y9.2.1.h⟩:bA) pX).bind λiw=>(eC (⟨C.b,iw.2.1.i,iw.2.1.h⟩:bA) u3).bind λiQ=>(HP (⟨C.b,iQ.2.1.i,iQ.2.1.h⟩:bA)).bind λmJ=>some ((⟨y8.1,⟨0,0,0,false,0,0⟩,y9.1,0,⟨iw.1,iQ.1,0⟩,mJ.1⟩:iK),((⟨C.b,mJ.2.1.i,mJ.2.1.h⟩:bA),()))else (MT T (W6 ((W6 (y1.tdiv E.av.rows))*u3))).bind λmK=>letI D:=mK.1;(Au (⟨C.b,mK.2.1.i,mK.2.1.h⟩:bA) 2).bind λL=>letI u1:=O 1 x2 D.dB D.line D.write D.data D.at_ 0 0 0 0 0 L.2.1.i L.2.1.h;bif L.1 then (eC (⟨C.b,L.2.1.i,L.2.1.h⟩:bA) 3).bind λmL=>(O 1 x2 D.dB mL.1 D.write D.data D.at_ 0 0 0 0 0 mL.2.1.i mL.2.1.h)else u1;bif (F.1==0)then (yh (F.1==0))else (yh (F.1==1))))
def aok:=kj ZJ [(true,.Act,2)] (jK MU) 87 [qM,SU,abQ,LB,ko,Gj,aoi,aoj] func58
abbrev abR:=((af×Int×af×af×Int×af)×((af×Int×Int×af)×eH×(aa iK)×(aa Int)×af))
def HR(x:abR):ah (abR⊕(((af×af)×((aa iK)×(af×Int×Int×af)×(aa Int)×af))⊕Empty)):=letI F:=x.1.2.2.2.2.1;letI C:=x.2.2.2;(eC (⟨C.2.1,x.2.1.2.1,x.2.1.2.2.1⟩:bA) (W6 (x.1.2.1+1))).bind λD=>bif F<D.1 then (MU (⟨C.2.1,D.2.1.i,D.2.1.h⟩:bA) x.2.2.1 (W6 (F+1))).bind λE=>bif aT (C.1.length+[E.1].length)then xG (((),x.1.2.1,(),(),(W6 (F+1)),()),(((),E.2.1.i,E.2.1.h,()),x.2.2.1,(C.1++[E.1]),C.2.1,()))else none else ay (((),()),(C.1,((),D.2.1.i,D.2.1.h,()),C.2.1,()))
def aol:KY 27 (bw f30):=⟨0,lB 0 ⟨[(0,.aI 20000 0),(2,tI),(4,.aI 4 0),(7,.lf (.own 9)),(8,tI)],[(20000,.blk ZK),(4,.st .Config),(9,.sl .Act 4),(20001,.sl .u8 0)],[]⟩ [(2,⟨[(7,.lf (.own 9))],[(9,.sl .Act 4),(20000,.blk ZK),(20001,.sl .u8 0)],[]⟩)] HR,lp [qM,aok]⟩
def MX(C:bA)(E:eH)(F:Int):ah (((aa iK))×(bA×af)):=aZ HR (((),F,(),(),0,()),(((),C.i,C.h,()),E,([]:aa iK),C.b,())) λD=>some (D.2.1,((⟨C.b,D.2.2.1.2.1,D.2.2.1.2.2.1⟩:bA),()))
def aom:=pV ZJ [(false,(.sl .Act),4)] (jK MX) 27 [] [aol] func30
def Tw(C:bA):ah ((ak)×(bA×af)):=(LD C).bind λD=>(HP (⟨C.b,D.2.1.i,D.2.1.h⟩:bA)).bind λE=>(MX (⟨C.b,E.2.1.i,E.2.1.h⟩:bA) D.1 12).bind λF=>(MQ D.1 E.1 F.1).bind λI=>some (I.1,((⟨C.b,F.2.1.i,F.2.1.h⟩:bA),()))
def aon:=kj xW [(true,.cX,4)] (bS Tw) 19 [alg,aof,abQ,aom] func17
def MY(C:aa Int):ah (ak):=(At C).bind λD=>(Tw (⟨C,0,D⟩:bA)).bind λE=>some E.1
def aoo:=bK [(false,(.sl .u8))] [(true,.cX,4)] (bS MY) 6 [⟨14,.n At,ZQ⟩,aon] func8
def mM(C:Int):ah (ByteArray):=(Ap C).bind λD=>some D
def MZ:=bK lZ [(false,.str,0)] (bS mM) 5 [⟨44,.p Zg,akY⟩] func19
abbrev abS:=((af×af×(aa ep)×Int×Int×af)×(((aa ep)×Int×af)×(aa ByteArray)×af))
def Tx(x:abS):ah (abS⊕(((af×af×af)×(((aa ep)×Int×af)×(aa ByteArray)×af))⊕Empty)):=letI D:=x.2.2.1;letI E:=([(ByteArray.mk #[45])]:aa ByteArray);letI C:=x.1.2.2;letI F:=((),(),C.1,C.2.1,(W6 (C.2.2.1+1)),());bif C.2.2.1<C.2.1 then xI C.1 C.2.2.1 λI=>bif I.open_ then (mM I.row).bind λL=>bif aT (D.length+([L]:aa ByteArray).length)then xG (F,(x.2.1,(D++([L]:aa ByteArray)),()))else none else bif aT (D.length+E.length)then xG (F,(x.2.1,(D++E),()))else none else ay (((),(),()),(x.2.1,D,()))
def aop:KY 39 (bw f11):=⟨0,lB 0 ⟨[(1,.aI 1 0),(3,.lf (.own 10)),(12,.lf (.aF .me 0)),(13,tI),(14,tI)],[(1,.blk xX),(10,.sl .str 2)],[]⟩ [(2,⟨[(1,.aI 1 0),(3,.lf (.own 10))],[(1,.blk xX),(10,.sl .str 2)],[]⟩)] Tx,lp [MZ]⟩
def Dn(C:cB):ah (ByteArray):=letI E:=([(ByteArray.mk #[97,99,116,105,118,101]),(ByteArray.mk #[100,111,119,110]),(ByteArray.mk #[115,108,101,101,112])]:aa ByteArray);(ck C.aS 0 2).bind λI=>bif (!I)then some (ByteArray.mk #[])else aZ Tx (((),(),C.aB,(C.aB.length:Int),0,()),((C.aB,C.aS,()),([]:aa ByteArray),())) λD=>xC E D.2.1.2.1 (if L:D.2.1.2.1.toNat<E.length then (let F:=E[D.2.1.2.1.toNat]'L;bif aT (D.2.2.1.length+([F]:aa ByteArray).length)then (pW (D.2.2.1++([F]:aa ByteArray)) (ByteArray.mk #[32])).bind λO=>some O else none)else none)
def abU:=cA [(true,.jQ)] [(false,.str,0)] (bS Dn) 39 [gd,⟨23,.p Ln,SB⟩] [aop] func11
abbrev abV:=((af×(aa bT)×Int×Int×af)×((aa ByteArray)×af))
def Ty(x:abV):ah (abV⊕(((af×af)×((aa ByteArray)×af))⊕Empty)):=letI E:=x.1.2.2;letI U:=ByteArray.mk #[108,111,115,116];letI Y:=ByteArray.mk #[102,105,120,101,100];letI Z:=((),x.1.2.1,E.1,(W6 (E.2.1+1)),());letI C:=ByteArray.mk #[58];letI D:=ByteArray.mk #[120];bif E.2.1<E.1 then xI x.1.2.1 E.2.1 λF=>bif (F.code==1)then (mM F.line).bind λI=>letI L:=(I++C)++Y;bif aT (I.size+C.size)then bif aT ((I++C).size+Y.size)then bif aT (L.size+D.size)then (mM F.times).bind λy4=>letI u7:=([((L++D)++y4)]:aa ByteArray);bif aT ((L++D).size+y4.size)then bif aT (x.2.1.length+u7.length)then xG (Z,((x.2.1++u7),()))else none else none else none else none else none else (mM F.line).bind λO=>letI T:=(O++C)++U;bif aT (O.size+C.size)then bif aT ((O++C).size+U.size)then bif aT (T.size+D.size)then (mM F.times).bind λy6=>letI u8:=([((T++D)++y6)]:aa ByteArray);bif aT ((T++D).size+y6.size)then bif aT (x.2.1.length+u8.length)then xG (Z,((x.2.1++u8),()))else none else none else none else none else none else ay (((),()),(x.2.1,()))
def aoq:KY 37 (bw f12):=⟨0,lB 0 ⟨[(3,.lf (.own 10)),(11,.lf (.aF .ig 0)),(12,tI),(13,tI)],[(10,.sl .str 2)],[]⟩ [(2,⟨[(3,.lf (.own 10))],[(10,.sl .str 2)],[]⟩)] Ty,lp [MZ]⟩
def Dp(C:aa bT):ah (ByteArray):=bif ((C.length:Int)==0)then some (ByteArray.mk #[110,111,110,101])else aZ Ty (((),C,(C.length:Int),0,()),(([]:aa ByteArray),())) λD=>(pW D.2.1 (ByteArray.mk #[32])).bind λE=>some E
def abW:=cA [(false,(.sl .ig))] [(false,.str,0)] (bS Dp) 37 [⟨23,.p Ln,SB⟩] [aoq] func12
def qO(C:aL):ah (Bool):=(ck C.bX 1 2).bind λD=>bif D then (ck C.aB 1 4).bind λE=>bif E then (ck C.rows 2 16).bind λF=>bif F then (ck C.aK 1 8).bind λI=>some I else some false else some false else some false
def AS:=bK vE cG (bS qO) 21 [gd] func62
def mN(C:aL):ah (Int):=(qO C).bind λD=>bif (!D)then some 0 else some (W6 (C.bX*C.aB))
def vO:=bK vE eZ (bS mN) 11 [AS] func63
abbrev abX:=((Int×af×af×af×Int×Int×af)×((Int×Int×Int×Int×af)×(Int×af×af)×(Int×af×af)×(aa Int)×(aa Int)×af))
def Dq(x:abX):ah (abX⊕(((Int×af×af×af×Int×af)×((Int×Int×Int×Int×af)×(Int×af×af)×(Int×af×af)×(aa Int)×(aa Int)×af))⊕Empty)):=letI C:=x.2.2.2;letI D:=x.1.2.2.2.2;bif D.2.1<(W6 (x.2.1.2.2.1-x.1.1))then bif aT (C.2.2.1.length+([D.2.1]:aa Int).length)then xG ((x.1.1,(),(),(),D.1,(W6 (D.2.1+1)),()),(x.2.1,x.2.2.1,C.1,C.2.1,(C.2.2.1++([D.2.1]:aa Int)),()))else none else ay ((x.1.1,(),(),(),D.1,()),(x.2.1,x.2.2.1,C.1,C.2.1,C.2.2.1,()))
def aor:KY 48 (r9 (bw f67) 0):=⟨2,lB 2 ⟨[(1,tI),(2,.aI 2 0),(4,.aI 4 0),(6,.aI 6 0),(7,tI),(8,tI)],Zk,[]⟩ [(4,SF)] Dq,lp []⟩
abbrev abY:=((Int×af×af×af×Int×af)×((Int×Int×Int×Int×af)×(Int×af×af)×(Int×af×af)×(aa Int)×(aa Int)×af))
def HS(x:abY):ah (abY⊕(((af×af×af)×((Int×af×af)×(Int×af×af)×(aa Int)×(aa Int)×af))⊕Empty)):=letI D:=x.2.2.2;(mN (⟨x.2.1.1,x.2.1.2.1,x.2.1.2.2.1,x.2.1.2.2.2.1⟩:aL)).bind λE=>bif x.1.2.2.2.2.1<E then aZ Dq ((x.1.1,(),(),(),x.1.2.2.2.2.1,0,()),(x.2.1,x.2.2.1,D.1,D.2.1,D.2.2.1,())) λC=>xG ((C.1.1,(),(),(),(W6 (C.1.2.2.2.2.1+1)),()),(C.2.1,C.2.2.1,C.2.2.2.1,C.2.2.2.2.1,C.2.2.2.2.2.1,()))else ay (((),(),()),(x.2.2.1,D.1,D.2.1,D.2.2.1,()))
def aos:KY 48 (bw f67):=⟨0,lB 0 SF [(2,Zq)] HS,lq [vO] [aor]⟩
def HT(C:aL)(D:Int):ah (dc×Bool):=letI E:=some ((⟨0,[]⟩:dc),false);(qO C).bind λI=>bif (!I)then E else (ck D 0 2).bind λL=>bif (!L)then E else bif (W6 (C.rows-D))<2 then E else aZ HS ((D,(),(),(),0,()),((C.bX,C.aB,C.rows,C.aK,()),(0,(),()),(D,(),()),([]:aa Int),([]:aa Int),())) λF=>some ((⟨F.2.2.1.1,F.2.2.2.2.1⟩:dc),true)
def abZ:=cA Lu [(true,.nD,2),(false,.bool,0)] (cz HT) 48 [gd,AS] [aos] func67
abbrev ab0:=((af×af×Int×Int×af)×(cV×(aa Int)×af))
def Ds(x:ab0):ah (ab0⊕(((Bool×af)×(af))⊕(((af×af)×(cV×af))⊕Empty))):=letI C:=x.1.2.2;bif C.2.1<C.1 then xL x.2.2.1 C.2.1 λD=>(ck D 1 64).bind λE=>bif (!E)then ay ((false,()),())else xG (((),(),C.1,(W6 (C.2.1+1)),()),(x.2.1,x.2.2.1,()))else aY (((),()),(x.2.1,()))
def aot:KY 75 (bw f110):=⟨0,lB 0 ⟨[(1,.aI 1 0),(39,.lf (.own 39)),(40,tI),(41,tI)],[(1,.st .kD),(39,.sl .int 2)],[]⟩ [(1,oE),(2,ZD)] Ds,lp [gd]⟩
def Dt(C:cV):ah (Bool):=letI E:=([C.jv,C.rp,C.fZ,C.ni,C.jw,C.mb,C.nj,C.nq,C.iJ,C.wr,C.nt,C.nu,C.qc,C.ny,C.og,C.xp,C.xs]:aa Int);bO Ds (((),(),(E.length:Int),0,()),(C,E,())) (λF=>some F.1.1) λI=>letI D:=I.2.1;bif D.jv <= D.fZ then bif D.ni <= D.jw then bif D.nj <= D.nq then some (D.nt <= D.nu)else some false else some false else some false
def ab1:=cA F7 cG (bS Dt) 75 [] [aot] func110
def HU(C:lK):ah (Bool):=(ck C.order 0 2).bind λD=>some D
def aou:=bK [(true,.rq)] cG (bS HU) 6 [gd] func111
def yw(C:cV):ah (Int):=(Dt C).bind λD=>bif (!D)then some 0 else some (W6 (2*(W6 ((W6 ((W6 ((W6 ((W6 ((W6 ((W6 ((W6 ((W6 (C.og+C.xp))+C.fZ))+C.wr))+C.iJ))+C.rp))+C.ny))+C.jv))+(W6 (8*C.jw))))+16))))
def aov:=bK F7 eZ (bS yw) 35 [ab1] func112
def M0(C:eH):ah (Bool):=(HT C.av C.bC).bind λD=>(qO C.av).bind λE=>bif E then (Dt C.bN).bind λF=>bif F then (HU C.mapping).bind λI=>bif I then bif D.2 then (yw C.bN).bind λL=>(ck C.interval L 10000).bind λO=>bif O then (ck C.ic 1 16).bind λT=>bif T then (ck C.ew.bD (W6 (6*C.interval)) 100000).bind λU=>bif U then (ck C.ew.bz 0 100000).bind λY=>some Y else some false else some false else some false else some false else some false else some false else some false
def aow:=bK [(true,.Config)] cG (bS M0) 57 [gd,AS,abZ,ab1,aou,aov] func59
def AT(C:iA):ah (Bool):=bif C.low >= 0 then bif C.low<C.high then some (C.high <= 12)else some false else some false
def ab2:=bK [(true,.qf)] cG (bS AT) 18 [] func41
abbrev ab3:=(((aa ct)×(aa ct)×Int×Int×af)×(af))
def HV(x:ab3):ah (ab3⊕(((Bool×af)×(af))⊕((((aa ct)×af)×(af))⊕Empty))):=letI C:=x.1.2.2;bif C.2.1<C.1 then xI x.1.2.1 C.2.1 λD=>(ck D.weight 1 9).bind λE=>bif (!E)then ay ((false,()),())else (ck D.eT 0 D.weight).bind λF=>bif (!F)then ay ((false,()),())else xG ((x.1.1,x.1.2.1,C.1,(W6 (C.2.1+1)),()),())else aY ((x.1.1,()),())
def aox:KY 27 (bw f40):=⟨0,lB 0 ⟨[(0,.lf (.aF .gx 0)),(5,.lf (.aF .gx 0)),(6,tI),(7,tI)],[],[]⟩ [(1,oE),(2,ZH)] HV,lp [gd]⟩
def Du(C:aa ct):ah (Bool):=bO HV ((C,C,(C.length:Int),0,()),()) (λD=>some D.1.1) λE=>(ck (E.1.1.length:Int) 1 4).bind λF=>some F
def ab4:=cA [(false,(.sl .gx))] cG (bS Du) 27 [gd] [aox] func40
abbrev ab5:=((af×(aa Int)×Int×Int×af)×((aa ct)×af))
def HW(x:ab5):ah (ab5⊕(((af×af)×((aa ct)×af))⊕Empty)):=letI C:=x.1.2.2;bif C.2.1<C.1 then xI x.1.2.1 C.2.1 λD=>letI E:=([(⟨D,D⟩:ct)]:aa ct);bif aT (x.2.1.length+E.length)then xG (((),x.1.2.1,C.1,(W6 (C.2.1+1)),()),((x.2.1++E),()))else none else ay (((),()),(x.2.1,()))
def aoy:KY 25 (bw f113):=⟨0,lB 0 ⟨[(4,.lf (.own 7)),(8,.lf (.aF .int 0)),(9,tI),(10,tI)],[(7,.sl .gx 2)],[]⟩ [(2,⟨[(4,.lf (.own 7))],[(7,.sl .gx 2)],[]⟩)] HW,lp []⟩
def AU(C:aa Int):ah ((aa ct)×Bool):=aZ HW (((),C,(C.length:Int),0,()),(([]:aa ct),())) λD=>(Du D.2.1).bind λE=>bif (!E)then some ([],false)else some (D.2.1,true)
def aoz:=cA tN [(false,(.sl .gx),2),(false,.bool,0)] (bS AU) 25 [ab4] [aoy] func113
def HX(C:qd):ah (Bool):=(ck C.down 1 10000).bind λD=>bif D then bif C.sleep > C.down then some (C.sleep <= 20000)else some false else some false
def aoA:=bK [(true,.sU)] cG (bS HX) 18 [gd] func114
def M1(C:dy):ah (Bool):=(AU C.weights).bind λE=>letI D:=(ck C.cap 0 100000).bind λF=>bif F then (ck C.eK 3 1000).bind λI=>bif I then (AT (⟨false,C.low,C.high⟩:iA)).bind λL=>bif L then bif ((C.weights.length:Int)==4)then bif E.2 then (HX C.dQ).bind λO=>some O else some false else some false else some false else some false else some false;bif (C.eV==0)then D else bif (C.eV==1)then D else some false
def aoB:=bK [(true,.kF)] cG (bS M1) 51 [gd,ab2,aoz,aoA] func60
def yx(C:Int):ah (Int):=(ck C 3 1000).bind λD=>bif (!D)then some 0 else some (W6 ((W6 (2*C))+2))
def aoC:=bK lZ eZ (bS yx) 9 [gd] func61
def qP(C:eH)(D:dy):ah (Bool):=letI E:=W6 (C.bN.fZ+C.bN.rp);(M0 C).bind λF=>bif F then (M1 D).bind λI=>bif I then (yx D.eK).bind λL=>bif (W6 (L+2)) <= C.ew.bz then if E=0 then none else some ((W6 ((W6 (C.ic+1))*D.eK)) > (W6 ((W6 ((W6 (5*C.interval)).tdiv E))+2)))else some false else some false else some false
def aoD:=bK SN cG (cz qP) 42 [aow,aoB,aoC] func31
abbrev ab6:=((af×(aa ep)×Int×Int×af)×((aa Int)×af))
def Dv(x:ab6):ah (ab6⊕(((af×af)×((aa Int)×af))⊕Empty)):=letI C:=x.1.2.2.2.1;letI D:=((),x.1.2.1,x.1.2.2.1,(W6 (C+1)),());bif C<x.1.2.2.1 then xI x.1.2.1 C λE=>bif E.open_ then bif aT (x.2.1.length+([C]:aa Int).length)then xG (D,((x.2.1++([C]:aa Int)),()))else none else xG (D,(x.2.1,()))else ay (((),()),(x.2.1,()))
def aoE:KY 23 (bw f64):=⟨0,lB 0 ⟨[(3,.lf (.own 6)),(8,.lf (.aF .me 0)),(9,tI),(10,tI)],[(6,.sl .int 2)],[]⟩ [(2,Zz)] Dv,lp []⟩
def AV(C:cB):ah ((aa Int)):=aZ Dv (((),C.aB,(C.aB.length:Int),0,()),(([]:aa Int),())) λD=>some D.2.1
def aoF:=cA [(true,.jQ)] sg (bS AV) 23 [] [aoE] func64
abbrev ab7:=((af×af×(aa ep)×Int×Int×af)×((Int×Int×Int×Int×af)×((aa ep)×Int×af)×af))
def HY(x:ab7):ah (ab7⊕(((Bool×af)×(af))⊕(((af×af)×(((aa ep)×Int×af)×af))⊕Empty))):=letI C:=x.1.2.2;letI E:=xG (((),(),C.1,C.2.1,(W6 (C.2.2.1+1)),()),(x.2.1,x.2.2.1,()));bif C.2.2.1<C.2.1 then xI C.1 C.2.2.1 λD=>(ck D.row 0 (W6 (x.2.1.2.2.1-1))).bind λF=>bif (!F)then ay ((false,()),())else bif (!D.open_)then bif (D.row != 0)then ay ((false,()),())else E else E else aY (((),()),(x.2.2.1,()))
def aoG:KY 58 (bw f32):=⟨0,lB 0 ⟨[(2,.aI 2 0),(3,.aI 3 0),(25,.lf (.aF .me 0)),(26,tI),(27,tI)],[(2,.blk gK),(3,.blk xX)],[]⟩ [(1,kU),(2,⟨[(3,.aI 3 0)],[(3,.blk xX)],[]⟩)] HY,lp [gd]⟩
def HZ(C:aL)(D:cB):ah (Bool):=(qO C).bind λF=>bif (!F)then some false else (mN C).bind λI=>bif ((D.aB.length:Int) != I)then some false else (ck D.aS 0 2).bind λL=>bif (!L)then some false else bO HY (((),(),D.aB,(D.aB.length:Int),0,()),((C.bX,C.aB,C.rows,C.aK,()),(D.aB,D.aS,()),())) (λO=>some O.1.1) λE=>bif (E.2.1.2.1 != 2)then some true else (AV (⟨E.2.1.1,E.2.1.2.1⟩:cB)).bind λT=>some ((T.length:Int)==0)
def aoH:=cA [(true,.gj),(true,.jQ)] cG (cz HZ) 58 [gd,AS,vO,aoF] [aoG] func32
def vP(C:Int):ah (Bool):=(ck C 1 5).bind λD=>some D
def aoI:=bK lZ cG (bS vP) 5 [gd] func115
def H6(I:aL)(F:Int):ah (aC×Bool):=letI C:=W6 (F.tdiv 9);letI D:=W6 ((F.tmod 9)+1);(mN I).bind λE=>bif C<E then (vP D).bind λL=>some ((⟨D,C,0,0⟩:aC),((decide (C<E))==L))else (vP D).bind λO=>some ((⟨D,0,0,0⟩:aC),((decide (C<E))==O))
def aoJ:=bK Lu [(true,.Command,0),(false,.bool,0)] (cz H6) 27 [vO,aoI] func65
abbrev ab8:=((af×af×(aa Int)×Int×Int×af)×((Int×Int×Int×Int×af)×((aa Int)×(aa Int)×af)×af))
def H7(x:ab8):ah (ab8⊕(((Bool×af)×(af))⊕(((af×af)×(((aa Int)×(aa Int)×af)×af))⊕Empty))):=letI C:=x.1.2.2;letI D:=C.2.2.1;letI E:=xG (((),(),C.1,C.2.1,(W6 (D+1)),()),(x.2.1,x.2.2.1,()));bif D<C.2.1 then xI C.1 D λF=>(H6 (⟨x.2.1.1,x.2.1.2.1,x.2.1.2.2.1,x.2.1.2.2.2.1⟩:aL) D).bind λI=>(ck F (-1) 1000000).bind λL=>bif (!L)then ay ((false,()),())else bif (!I.2)then bif (F != (-1))then ay ((false,()),())else E else E else aY (((),()),(x.2.2.1,()))
def aoK:KY 82 (bw f33):=⟨0,lB 0 ⟨[(2,.aI 2 0),(3,.aI 3 0),(31,.lf (.aF .int 0)),(32,tI),(33,tI)],[(2,.blk gK),(3,.blk Aq)],[]⟩ [(1,kU),(2,Zw)] H7,lp [gd,aoJ]⟩
abbrev ab9:=((af×(aa Int)×Int×Int×af)×(((aa Int)×(aa Int)×af)×af))
def H8(x:ab9):ah (ab9⊕(((Bool×af)×(af))⊕(((af)×(af))⊕Empty))):=letI C:=x.1.2.2.2.1;letI D:=xG (((),x.1.2.1,x.1.2.2.1,(W6 (C+1)),()),(x.2.1,()));bif C<x.1.2.2.1 then xI x.1.2.1 C λE=>(ck E 0 1000000).bind λF=>bif (!F)then ay ((false,()),())else bif C > 0 then xI x.2.1.2.1 (W6 (C-1)) λI=>bif I >= E then ay ((false,()),())else D else D else aY ((),())
def aoL:KY 82 (bw f33):=⟨2,lB 2 ⟨[(3,.aI 3 0),(57,.lf (.aF .int 0)),(58,tI),(59,tI)],[(3,.blk Aq)],[]⟩ [(1,kU),(4,jk)] H8,lp [gd]⟩
def Dw(C:aL)(D:dJ):ah (Bool):=(qO C).bind λF=>bif (!F)then some false else (mN C).bind λI=>bif ((D.last.length:Int) != (W6 (9*(W6 (I+1)))))then some false else bif (D.bf.length:Int) > 4 then some false else bO H7 (((),(),D.last,(D.last.length:Int),0,()),((C.bX,C.aB,C.rows,C.aK,()),(D.last,D.bf,()),())) (λL=>some L.1.1) λE=>bO H8 (((),E.2.1.2.1,(E.2.1.2.1.length:Int),0,()),(E.2.1,())) (λO=>some O.1.1) λT=>some true
def aoM:=cA [(true,.gj),(true,.nB)] cG (cz Dw) 82 [AS,vO] [aoK,aoL] func33
def yz(C:aL):ah (Int):=(mN C).bind λD=>some (W6 ((W6 (D*C.rows))*C.aK))
def acd:=bK vE eZ (bS yz) 11 [vO] func38
def AX(C:Int):ah (Bool):=(ck C 0 15).bind λD=>some D
def aoN:=bK lZ cG (bS AX) 5 [gd] func116
abbrev ace:=(((aa Int)×Int×(aa Int)×Int×Int×af)×(af))
def yA(x:ace):ah (ace⊕(((Bool×af)×(af))⊕((((aa Int)×Int×af)×(af))⊕Empty))):=letI C:=x.1.2.2;bif C.2.2.1<C.2.1 then xI C.1 C.2.2.1 λD=>(AX D).bind λE=>bif (!E)then ay ((false,()),())else xG ((x.1.1,x.1.2.1,C.1,C.2.1,(W6 (C.2.2.1+1)),()),())else aY ((x.1.1,x.1.2.1,()),())
def aoO:KY 21 (bw f66):=⟨0,lB 0 ⟨[(0,.lf (.aF .int 0)),(1,tI),(7,.lf (.aF .int 0)),(8,tI),(9,tI)],[],[]⟩ [(1,kU),(2,ZA)] yA,lp [aoN]⟩
def tT(C:aa Int)(E:Int):ah (Bool):=bO yA ((C,E,C,(C.length:Int),0,()),()) (λF=>some F.1.1) λD=>some ((D.1.1.length:Int)==D.1.2.1)
def aoP:=cA F4 cG (cz tT) 21 [] [aoO] func66
abbrev acf:=((af×(aa bV)×Int×Int×af)×(((aa bV)×(aa Int)×(aa Int)×af)×af))
def H9(x:acf):ah (acf⊕(((Bool×af)×(af))⊕(((af×af)×(((aa bV)×(aa Int)×(aa Int)×af)×af))⊕Empty))):=letI C:=x.1.2.2;bif C.2.1<C.1 then xI x.1.2.1 C.2.1 λD=>(tT D.symbols 11).bind λE=>bif (!E)then ay ((false,()),())else xG (((),x.1.2.1,C.1,(W6 (C.2.1+1)),()),(x.2.1,()))else aY (((),()),(x.2.1,()))
def aoQ:KY 74 (bw f34):=⟨0,lB 0 ⟨[(3,.aI 3 0),(40,.lf (.aF .Cell 0)),(41,tI),(42,tI)],[(3,.blk Lt)],[]⟩ [(1,kU),(2,⟨[(3,.aI 3 0)],[(3,.blk Lt)],[]⟩)] H9,lp [aoP]⟩
abbrev acg:=((af×Int×Int×af)×(((aa bV)×(aa Int)×(aa Int)×af)×af))
def Ia(x:acg):ah (acg⊕(((Bool×af)×(af))⊕(((af)×(af))⊕Empty))):=letI C:=x.1.2.2.1;bif C<x.1.2.1 then xI x.2.1.2.1 C λD=>(ck D 0 100000).bind λE=>bif (!E)then ay ((false,()),())else xI x.2.1.2.2.1 C λF=>(ck F 0 100000).bind λI=>bif (!I)then ay ((false,()),())else xG (((),x.1.2.1,(W6 (C+1)),()),(x.2.1,()))else aY ((),())
def aoR:KY 74 (bw f34):=⟨2,lB 2 ⟨[(3,.aI 3 0),(53,tI),(54,tI)],[(3,.blk Lt)],[]⟩ [(1,kU),(4,jk)] Ia,lp [gd]⟩
def Ib(D:aL)(C:dh):ah (Bool):=(mN D).bind λE=>(qO D).bind λI=>bif (!I)then some false else (yz D).bind λL=>bif ((C.cells.length:Int) != L)then some false else bif ((C.bD.length:Int) != (W6 (E*D.rows)))then some false else bif ((C.bz.length:Int) != (W6 (E*D.rows)))then some false else bO H9 (((),C.cells,(C.cells.length:Int),0,()),((C.cells,C.bD,C.bz,()),())) (λO=>some O.1.1) λF=>bO Ia (((),(F.2.1.2.1.length:Int),0,()),(F.2.1,())) (λT=>some T.1.1) λU=>some true
def aoS:=cA [(true,.gj),(true,.Array)] cG (cz Ib) 74 [acd,AS,vO] [aoQ,aoR] func34
def Dx(L:aL)(E:dc)(F:Int):ah (Nat×Nat):=letI I:=W6 (L.rows-E.bC);letI C:=W6 (F*I);letI D:=W6 ((W6 (F+1))*I);if 0 <= C/\C <= D/\D <= (E.map.length:Int)then some (C.toNat,D.toNat)else none
def ach:zU:=Sl [(true,.gj),(true,.nD),(false,.int)] 1 1 .int (λx=>Dx x.1 x.2.1 x.2.2.1)
def aoT:enters Tryz.prog 68/\Kq Tryz.prog 68 ach:=akA (N:=23) (fn:=f68) (code:=bw f68) (Φ:=(nY [])) (Λ:=(kT [])) (t:=.int) func68 (by kernel_rfl) (by kernel_rfl) (by kernel_rfl) (by kernel_rfl) (by kernel_rfl) (by kernel_rfl) (by kernel_rfl) (by kernel_rfl) (tK _ trivial) CK (λx=>by kernel_rfl)
abbrev aci:=((Int×Int×(aa Int)×Int×Int×af)×(af))
def Ic(x:aci):ah (aci⊕(((Int×af)×(af))⊕Empty)):=letI C:=x.1.2.2;letI D:=C.2.2.1;bif D<C.2.1 then xI C.1 D λE=>bif (E==x.1.1)then xG ((x.1.1,(W6 (x.1.2.1+1)),C.1,C.2.1,(W6 (D+1)),()),())else xG ((x.1.1,x.1.2.1,C.1,C.2.1,(W6 (D+1)),()),())else ay ((x.1.2.1,()),())
def aoU:KY 21 (bw f69):=⟨0,lB 0 ⟨[(1,tI),(5,tI),(8,.lf (.aF .int 0)),(9,tI),(10,tI)],[],[]⟩ [(2,CN)] Ic,lp []⟩
def M3(C:aa Int)(D:Int):ah (Int):=aZ Ic ((D,0,C,(C.length:Int),0,()),()) λE=>some E.1.1
def aoV:=cA F4 eZ (cz M3) 21 [] [aoU] func69
abbrev acj:=((af×af×Int×Int×(aa Int)×(aa Int)×Int×Int×af)×((Int×Int×Int×Int×af)×(Int×(aa Int)×af)×af))
def Dy(x:acj):ah (acj⊕(((Bool×af)×(af))⊕(((af×af×Int×Int×af)×((Int×Int×Int×Int×af)×(Int×(aa Int)×af)×af))⊕Empty))):=letI D:=x.1.2.2;letI C:=D.2.2;letI E:=C.2.2.2.1;letI I:=xG (((),(),D.1,D.2.1,C.1,C.2.1,C.2.2.1,(W6 (E+1)),()),(x.2.1,x.2.2.1,()));bif E<C.2.2.1 then xI C.2.1 E λF=>bif (F != E)then (ck F D.1 (W6 (x.2.1.2.2.1-1))).bind λL=>bif (!L)then ay ((false,()),())else (M3 C.1 F).bind λO=>bif O > 1 then ay ((false,()),())else I else I else aY (((),(),D.1,D.2.1,()),(x.2.1,x.2.2.1,()))
def aoW:KY 71 (r9 (bw f35) 0):=⟨2,lB 2 ⟨[(2,.aI 2 0),(3,.aI 3 0),(7,tI),(8,tI),(9,.lf (.aF .int 0)),(45,.lf (.aF .int 0)),(46,tI),(47,tI)],[(2,.blk gK),(3,.blk Lw)],[]⟩ [(1,kU),(4,SK)] Dy,lp [gd,aoV]⟩
abbrev ack:=((af×af×Int×Int×af)×((Int×Int×Int×Int×af)×(Int×(aa Int)×af)×af))
def Ie(x:ack):ah (ack⊕(((Bool×af)×(af))⊕(((af)×(af))⊕Empty))):=letI F:=x.1.2.2.2.1;letI C:=x.2.2.1;letI L:=(⟨x.2.1.1,x.2.1.2.1,x.2.1.2.2.1,x.2.1.2.2.2.1⟩:aL);(mN L).bind λO=>bif F<O then (Dx L (⟨C.1,C.2.1⟩:dc) F).bind λD=>letI I:=(C.2.1.take D.2).drop D.1;bif Nat.ble D.1 D.2&&Nat.ble D.2 C.2.1.length then bO Dy (((),(),x.1.2.2.1,F,I,I,(I.length:Int),0,()),(x.2.1,C,())) (λT=>ay ((T.1.1,()),())) λE=>xG (((),(),E.1.2.2.1,(W6 (E.1.2.2.2.1+1)),()),(E.2.1,E.2.2.1,()))else none else aY ((),())
def aoX:KY 71 (bw f35):=⟨0,lB 0 SK [(1,kU),(2,jk)] Ie,lq [vO,⟨68,.v ach,aoT⟩] [aoW]⟩
def Ig(C:aL)(D:dc):ah (Bool):=(HT C D.bC).bind λE=>bif (!E.2)then some false else bif ((D.map.length:Int) != (E.1.map.length:Int))then some false else bO Ie (((),(),(W6 (C.rows-D.bC)),0,()),((C.bX,C.aB,C.rows,C.aK,()),(D.bC,D.map,()),())) (λF=>some F.1.1) λI=>some true
def acm:=cA SP cG (cz Ig) 71 [abZ] [aoX] func35
abbrev acn:=((af×(aa Int)×Int×Int×af)×(((aa Int)×Int×Bool×af)×af))
def Ih(x:acn):ah (acn⊕(((Bool×af)×(af))⊕(((af×af)×(((aa Int)×Int×Bool×af)×af))⊕Empty))):=letI C:=x.1.2.2;bif C.2.1<C.1 then xI x.1.2.1 C.2.1 λD=>(ck D (-2) 5).bind λE=>bif (!E)then ay ((false,()),())else xG (((),x.1.2.1,C.1,(W6 (C.2.1+1)),()),(x.2.1,()))else aY (((),()),(x.2.1,()))
def aoY:KY 25 (bw f70):=⟨0,lB 0 ⟨[(1,.aI 1 0),(6,.lf (.aF .int 0)),(7,tI),(8,tI)],[(1,.blk F3)],[]⟩ [(1,oE),(2,ZE)] Ih,lp [gd]⟩
def yB(C:cW):ah (Bool):=bO Ih (((),C.aO,(C.aO.length:Int),0,()),((C.aO,C.wait,C.ei,()),())) (λE=>some E.1.1) λD=>(ck (D.2.1.1.length:Int) 1 8).bind λF=>bif F then (ck D.2.1.2.1 1 10000).bind λI=>some I else some false
def aoZ:=cA [(true,.kE)] cG (bS yB) 25 [gd] [aoY] func70
abbrev aco:=(((aa Int)×Int×Int×Int×af)×(af))
def Ii(x:aco):ah (aco⊕(((Int×af)×(af))⊕(((af)×(af))⊕Empty))):=letI C:=x.1.2.2.2.1;bif C<x.1.2.2.1 then xI x.1.1 C λD=>bif (x.1.2.1==D)then ay ((C,()),())else xG ((x.1.1,x.1.2.1,x.1.2.2.1,(W6 (C+1)),()),())else aY ((),())
def ao0:KY 19 (bw f117):=⟨0,lB 0 ⟨[(0,.lf (.aF .int 0)),(1,tI),(7,tI),(8,tI)],[],[]⟩ [(1,CM),(2,jk)] Ii,lp []⟩
def AY(C:aa Int)(D:Int):ah (Int):=(iter Ii big ((C,D,(C.length:Int),0,()),())).bind (Sum.elim (λE=>some E.1.1) (Sum.elim (λF=>some (-1)) (λz=>nomatch z)))
def ao1:=cA F4 eZ (cz AY) 19 [] [ao0] func117
abbrev acp:=((af×(aa Int)×Int×Int×af)×(((aa Int)×(aa Int)×Int×af)×af))
def Ij(x:acp):ah (acp⊕(((Bool×af)×(af))⊕(((af)×(af))⊕Empty))):=letI D:=ay ((false,()),());letI C:=x.1.2.2.2.1;letI F:=xG (((),x.1.2.1,x.1.2.2.1,(W6 (C+1)),()),(x.2.1,()));bif C<x.1.2.2.1 then xI x.1.2.1 C λE=>letI I:=bif (E != (-1))then (AY x.2.1.1 E).bind λL=>bif (L != C)then D else F else F;(ck E (-1) 15).bind λO=>bif (!O)then D else xI x.2.1.2.1 C λT=>(ck T x.2.1.2.2.1 100000).bind λU=>bif (!U)then D else bif (E==(-1))then xI x.2.1.2.1 C λY=>bif (Y != 0)then D else I else I else aY ((),())
def ao2:KY 72 (bw f71):=⟨0,lB 0 ⟨[(1,.aI 1 0),(26,.lf (.aF .int 0)),(27,tI),(28,tI)],SE,[]⟩ [(1,oE),(2,jk)] Ij,lp [gd,ao1]⟩
def AZ(C:cg):ah (Bool):=letI D:=(C.rows.length:Int);(ck D 1 16).bind λE=>bif (!E)then some false else bif ((C.counts.length:Int) != D)then some false else (ck C.ef 0 100000).bind λF=>bif (!F)then some false else bO Ij (((),C.rows,D,0,()),((C.rows,C.counts,C.ef,()),())) (λI=>some I.1.1) λL=>some true
def ao3:=cA [(true,.jR)] cG (bS AZ) 72 [gd] [ao2] func71
end Go.Proofs.YthmgjjfedieljaaGreatDoor
