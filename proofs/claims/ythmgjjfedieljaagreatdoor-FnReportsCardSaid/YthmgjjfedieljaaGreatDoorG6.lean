/-
  Functions of the program as plain functions of contents, and that the code computes them. Nothing here is a claim.
-/
import Derived.Test.YthmgjjfedieljaaGreatDoorVZ
import Derived.Test.YthmgjjfedieljaaGreatDoorRows
import Derived.Test.YthmgjjfedieljaaGreatDoorExt
import Derived.Test.YthmgjjfedieljaaGreatDoorG1
import Derived.Test.YthmgjjfedieljaaGreatDoorG2
import Derived.Test.YthmgjjfedieljaaGreatDoorG3
import Derived.Test.YthmgjjfedieljaaGreatDoorG4
import Derived.Test.YthmgjjfedieljaaGreatDoorG5
namespace Go.Proofs.YthmgjjfedieljaaGreatDoor
set_option linter.defProp false
open Go.RowKit Go.Proofs.Tryz
set_option linter.unusedVariables false
set_option maxRecDepth 100000
def A3(C:aL)(D:aG):ah (Bool):=(qO C).bind λE=>bif E then (mN C).bind λF=>(ck D.az 0 (W6 (F-1))).bind λI=>bif I then (ck D.row 0 (W6 (C.rows-1))).bind λL=>bif L then (ck D.bL 0 (W6 (C.aK-1))).bind λO=>some O else some false else some false else some false
def ao4:=bK SO cG (cz A3) 31 [gd,AS,vO] func72
abbrev acq:=(((aa aG)×af×Int×Int×af)×((Int×Int×Int×af)×af))
def Ik(x:acq):ah (acq⊕(((Int×af)×(af))⊕(((af)×(af))⊕Empty))):=letI C:=x.1.2.2.2.1;bif C<x.1.2.2.1 then xI x.1.1 C λD=>bif ((x.2.1.1==D.az)&&((x.2.1.2.1==D.row)&&((x.2.1.2.2.1==D.bL)&&true)))then ay ((C,()),())else xG ((x.1.1,(),x.1.2.2.1,(W6 (C+1)),()),(x.2.1,()))else aY ((),())
def ao5:KY 19 (bw f73):=⟨0,lB 0 ⟨[(0,.lf (.aF .Addr 0)),(3,.aI 3 0),(7,tI),(8,tI)],[(3,.blk F6)],[]⟩ [(1,CM),(2,jk)] Ik,lp []⟩
def Dz(D:aa aG)(C:aG):ah (Int):=(iter Ik big ((D,(),(D.length:Int),0,()),((C.az,C.row,C.bL,()),()))).bind (Sum.elim (λE=>some E.1.1) (Sum.elim (λF=>some (-1)) (λz=>nomatch z)))
def ao6:=cA [(false,(.sl .Addr)),(true,.Addr)] eZ (cz Dz) 19 [] [ao5] func73
abbrev acr:=((af×af×Int×Int×af)×(ak×(Int×Int×Int×Int×af)×af))
def M4(x:acr):ah (acr⊕(((Bool×af)×(af))⊕(((af×af×af)×(ak×(Int×Int×Int×Int×af)×af))⊕Empty))):=letI C:=x.1.2.2.2.1;bif C<x.1.2.2.1 then xI x.2.1.bI C λD=>(AZ D).bind λE=>bif (!E)then ay ((false,()),())else xI x.2.1.guard C λF=>(ck F 3 1000).bind λI=>bif (!I)then ay ((false,()),())else xG (((),(),x.1.2.2.1,(W6 (C+1)),()),(x.2.1,x.2.2.1,()))else aY (((),(),()),(x.2.1,x.2.2.1,()))
def ao7:KY 94 (bw f36):=⟨0,lB 0 ⟨[(1,.aI 1 0),(3,.aI 3 0),(47,tI),(48,tI)],SL,[]⟩ [(1,oE),(2,⟨[(1,.aI 1 0),(3,.aI 3 0)],SL,[]⟩)] M4,lp [gd,ao3]⟩
abbrev acs:=((af×af×(aa aG)×Int×Int×af)×(ak×(Int×Int×Int×Int×af)×af))
def M5(x:acs):ah (acs⊕(((Bool×af)×(af))⊕(((af)×(af))⊕Empty))):=letI C:=x.2.2.1;letI F:=ay ((false,()),());letI D:=x.1.2.2;letI E:=D.2.2.1;bif E<D.2.1 then xI D.1 E λI=>(A3 (⟨C.1,C.2.1,C.2.2.1,C.2.2.2.1⟩:aL) I).bind λL=>bif (!L)then F else bif (I.bL != 0)then F else (Dz x.2.1.pending I).bind λO=>bif (O != E)then F else xG (((),(),D.1,D.2.1,(W6 (E+1)),()),(x.2.1,C,()))else aY ((),())
def ao8:KY 94 (bw f36):=⟨2,lB 2 ⟨[(1,.aI 1 0),(3,.aI 3 0),(69,.lf (.aF .Addr 0)),(70,tI),(71,tI)],SL,[]⟩ [(1,oE),(4,jk)] M5,lp [ao4,ao6]⟩
def M6(C:ak):ah (Bool):=(mN C.config.av).bind λE=>(yB C.aX).bind λF=>bif (!F)then some false else bif ((C.aX.aO.length:Int) != E)then some false else bif ((C.bI.length:Int) != E)then some false else bif ((C.guard.length:Int) != E)then some false else bif (C.pending.length:Int) > 128 then some false else bO M4 (((),(),(C.bI.length:Int),0,()),(C,(C.config.av.bX,C.config.av.aB,C.config.av.rows,C.config.av.aK,()),())) (λI=>some I.1.1) λD=>bO M5 (((),(),D.2.1.pending,(D.2.1.pending.length:Int),0,()),(D.2.1,D.2.2.1,())) (λL=>some L.1.1) λO=>some true
def ao9:=cA [(true,.cX)] cG (bS M6) 94 [vO,aoZ] [ao7,ao8] func36
def M7(E:Int)(C:aP):ah (Bool):=letI D:=(ck C.at_ 0 1000000).bind λF=>some F;(ck C.id 1 100000).bind λI=>bif I then (ck C.dB 0 3).bind λL=>bif L then bif C.line >= 0 then bif C.line<E then (tO C.data).bind λO=>bif O then bif C.write then D else bif (C.data==0)then D else some false else some false else some false else some false else some false else some false
def apa:=bK [(false,.int),(true,.eI)] cG (cz M7) 43 [ZR,gd] func74
def M8(C D:aP):ah (Bool):=bif C.at_<D.at_ then some true else bif (C.at_==D.at_)then some (C.id<D.id)else some false
def apb:=bK [(true,.eI),(true,.eI)] cG (cz M8) 24 [] func75
abbrev acu:=((Int×(aa aP)×af×(aa aP)×Int×Int×(aa aP)×Int×Int×af)×((Int×Int×Int×Bool×Int×Int×af)×af))
def DA(x:acu):ah (acu⊕(((Bool×af)×(af))⊕(((Int×(aa aP)×(aa aP)×Int×Int×af)×(af))⊕Empty))):=letI D:=x.1.2.2.2.2;letI C:=D.2.2;bif C.2.2.1<C.2.1 then xI C.1 C.2.2.1 λE=>bif (E.id==x.2.1.1)then ay ((false,()),())else xG ((x.1.1,x.1.2.1,(),x.1.2.2.2.1,D.1,D.2.1,C.1,C.2.1,(W6 (C.2.2.1+1)),()),(x.2.1,()))else aY ((x.1.1,x.1.2.1,x.1.2.2.2.1,D.1,D.2.1,()),())
def acv:KY 52 (r9 (bw f37) 0):=⟨2,lB 2 ⟨[(0,tI),(1,.lf (.aF .eI 0)),(6,.aI 6 0),(9,.lf (.aF .eI 0)),(10,tI),(11,tI),(36,.lf (.aF .eI 0)),(37,tI),(38,tI)],[(6,.blk F5)],[]⟩ [(1,kU),(4,Zr)] DA,lp []⟩
abbrev acw:=((Int×(aa aP)×(aa aP)×Int×Int×af)×(af))
def Il(x:acw):ah (acw⊕(((Bool×af)×(af))⊕((((aa aP)×af)×(af))⊕Empty))):=letI C:=x.1.2;letI D:=C.2.2.2.1;letI I:=(C.1.take D.toNat).drop (0:Int).toNat;bif D<C.2.2.1 then xI C.2.1 D λE=>letI L:=if 0 <= (0:Int)/\0 <= D/\D <= (C.1.length:Int)then bO DA ((x.1.1,C.1,(),C.2.1,C.2.2.1,D,I,(I.length:Int),0,()),((E.id,E.dB,E.line,E.write,E.data,E.at_,()),())) (λO=>ay ((O.1.1,()),())) λF=>xG ((F.1.1,F.1.2.1,F.1.2.2.1,F.1.2.2.2.1,(W6 (F.1.2.2.2.2.1+1)),()),())else none;(M7 x.1.1 E).bind λT=>bif (!T)then ay ((false,()),())else bif D > 0 then xI C.1 (W6 (D-1)) λU=>(M8 U E).bind λY=>bif (!Y)then ay ((false,()),())else L else L else aY ((C.1,()),())
def apc:KY 52 (bw f37):=⟨0,lB 0 Zr [(1,kU),(2,⟨[(1,.lf (.aF .eI 0))],[],[]⟩)] Il,lq [apa,apb] [acv,acv]⟩
def M9(D:Int)(C:aa aP):ah (Bool):=bO Il ((D,C,C,(C.length:Int),0,()),()) (λE=>some E.1.1) λF=>some ((F.1.1.length:Int) <= 12)
def apd:=cA [(false,.int),(false,(.sl .eI))] cG (cz M9) 52 [] [apc] func37
def DB(C:aL)(D:dc):ah (aL):=(Ig C D).bind λE=>bif (!E)then some (⟨0,0,0,0⟩:aL)else some (⟨C.bX,C.aB,(W6 (C.rows-D.bC)),C.aK⟩:aL)
def ape:=bK SP [(true,.gj,0)] (cz DB) 17 [acm] func39
def A4(C:eU):ah (Bool):=(ck C.state 0 2).bind λD=>bif D then (ck C.since 0 1000000).bind λE=>bif E then (ck C.idle 0 1000000).bind λF=>some F else some false else some false
def apf:=bK [(true,.Power)] cG (bS A4) 16 [gd] func42
abbrev acy:=(((aa bT)×af×(aa bT)×Int×Int×(aa bT)×Int×Int×af)×((Int×Int×Int×af)×af))
def DC(x:acy):ah (acy⊕(((Bool×af)×(af))⊕((((aa bT)×(aa bT)×Int×Int×af)×(af))⊕Empty))):=letI D:=x.1.2.2;letI C:=D.2.2;letI E:=xG ((x.1.1,(),D.1,D.2.1,C.1,C.2.1,C.2.2.1,(W6 (C.2.2.2.1+1)),()),(x.2.1,()));bif C.2.2.2.1<C.2.2.1 then xI C.2.1 C.2.2.2.1 λF=>bif (x.2.1.1==F.line)then bif (x.2.1.2.1==F.code)then ay ((false,()),())else E else E else aY ((x.1.1,D.1,D.2.1,C.1,()),())
def acz:KY 59 (r9 (bw f43) 0):=⟨2,lB 2 ⟨[(0,.lf (.aF .ig 0)),(4,.aI 4 0),(7,.lf (.aF .ig 0)),(8,tI),(9,tI),(36,.lf (.aF .ig 0)),(37,tI),(38,tI)],[(4,.blk F6)],[]⟩ [(1,oE),(4,Zu)] DC,lp []⟩
abbrev acA:=(((aa bT)×(aa bT)×Int×Int×af)×(af))
def Im(x:acA):ah (acA⊕(((Bool×af)×(af))⊕((((aa bT)×af)×(af))⊕Empty))):=letI F:=ay ((false,()),());letI D:=x.1.2.2.2.1;letI I:=(x.1.1.take D.toNat).drop (0:Int).toNat;bif D<x.1.2.2.1 then xI x.1.2.1 D λC=>letI L:=(ck C.times 1 999).bind λO=>bif (!O)then F else if 0 <= (0:Int)/\0 <= D/\D <= (x.1.1.length:Int)then bO DC ((x.1.1,(),x.1.2.1,x.1.2.2.1,D,I,(I.length:Int),0,()),((C.line,C.code,C.times,()),())) (λT=>ay ((T.1.1,()),())) λE=>xG ((E.1.1,E.1.2.1,E.1.2.2.1,(W6 (E.1.2.2.2.1+1)),()),())else none;(ck C.line 0 1023).bind λU=>bif (!U)then F else bif (C.code != 1)then bif (C.code != 2)then F else L else L else aY ((x.1.1,()),())
def apg:KY 59 (bw f43):=⟨0,lB 0 Zu [(1,oE),(2,⟨[(0,.lf (.aF .ig 0))],[],[]⟩)] Im,lq [gd] [acz,acz]⟩
def Io(C:aa bT):ah (Bool):=bO Im ((C,C,(C.length:Int),0,()),()) (λD=>some D.1.1) λE=>some ((E.1.1.length:Int) <= 6)
def aph:=cA [(false,(.sl .ig))] cG (bS Io) 59 [] [apg] func43
def A5(C:ak):ah (Bool):=(qP C.config C.box.bU).bind λD=>bif (!D)then some false else (qP C.config C.box.next).bind λE=>bif (!E)then some false else (ck C.now 0 1000000).bind λF=>bif (!F)then some false else (HZ C.config.av C.aU).bind λI=>bif (!I)then some false else (Dw C.config.av C.ready).bind λL=>bif (!L)then some false else (Ib C.config.av C.array).bind λO=>bif (!O)then some false else (Ig C.config.av C.spare).bind λT=>bif (!T)then some false else bif (C.spare.bC != C.config.bC)then some false else (M6 C).bind λU=>bif (!U)then some false else (DB C.config.av C.spare).bind λY=>(yz Y).bind λZ=>(M9 Z C.queue).bind λiw=>bif (!iw)then some false else (Du C.shares).bind λiQ=>bif (!iQ)then some false else bif ((C.shares.length:Int) != 4)then some false else (AT C.drain).bind λmJ=>bif (!mJ)then some false else (A4 C.aS).bind λmK=>bif (!mK)then some false else bif (C.aS.state != C.aU.aS)then some false else bif C.aS.since > C.now then some false else (ck C.cJ.every 1 100000).bind λn5=>bif n5 then (ck C.cJ.wait 1 C.cJ.every).bind λmL=>bif mL then (yz C.config.av).bind λjl=>(ck C.cJ.next 0 (W6 (jl-1))).bind λpY=>bif pY then (Io C.errors).bind λAM=>bif AM then bif (C.trace.length:Int) <= 2000 then some ((C.bY.length:Int) <= 400)else some false else some false else some false else some false else some false
def api:=bK [(true,.cX)] cG (bS A5) 155 [gd,aoD,aoH,aoM,aoS,acm,ao9,apd,acd,ape,ab4,ab2,apf,aph] func18
abbrev acB:=((af×(aa Int)×Int×Int×af)×((aa ByteArray)×af))
def Tz(x:acB):ah (acB⊕(((af×af)×((aa ByteArray)×af))⊕Empty)):=letI C:=x.1.2.2;bif C.2.1<C.1 then xI x.1.2.1 C.2.1 λE=>(mM E).bind λD=>bif aT (x.2.1.length+([D]:aa ByteArray).length)then xG (((),x.1.2.1,C.1,(W6 (C.2.1+1)),()),((x.2.1++([D]:aa ByteArray)),()))else none else ay (((),()),(x.2.1,()))
def apj:KY 21 (bw f20):=⟨0,lB 0 ⟨[(3,.lf (.own 6)),(7,.lf (.aF .int 0)),(8,tI),(9,tI)],[(6,.sl .str 2)],[]⟩ [(2,⟨[(3,.lf (.own 6))],[(6,.sl .str 2)],[]⟩)] Tz,lp [MZ]⟩
def Ip(C:aa Int):ah (ByteArray):=aZ Tz (((),C,(C.length:Int),0,()),(([]:aa ByteArray),())) λD=>(pW D.2.1 (ByteArray.mk #[32])).bind λE=>some E
def apk:=cA tN [(false,.str,0)] (bS Ip) 21 [⟨23,.p Ln,SB⟩] [apj] func20
def Na(C:ak):ah ((aa ByteArray)):=letI T:=ByteArray.mk #[110,111,119,32];letI U:=ByteArray.mk #[114,97,110,107,32];letI Y:=ByteArray.mk #[100,101,98,116,115,32];letI Z:=ByteArray.mk #[101,114,114,111,114,115,32];letI L:=ByteArray.mk #[32,114,101,112,108,105,101,115,32];letI O:=ByteArray.mk #[32,112,101,110,100,105,110,103,32];letI D:=ByteArray.mk #[113,117,101,117,101,32];letI E:=ByteArray.mk #[99,111,109,109,97,110,100,115,32];(A5 C).bind λy1=>bif (!y1)then some ([])else (mM C.now).bind λy2=>bif aT (T.size+y2.size)then (Dn C.aU).bind λy3=>bif aT (U.size+y3.size)then (mM (C.queue.length:Int)).bind λF=>bif aT (D.size+F.size)then bif aT ((D++F).size+O.size)then (mM (C.pending.length:Int)).bind λy5=>bif aT (((D++F)++O).size+y5.size)then (Ip C.aX.aO).bind λy6=>bif aT (Y.size+y6.size)then (mM (C.trace.length:Int)).bind λI=>bif aT (E.size+I.size)then bif aT ((E++I).size+L.size)then (mM (C.bY.length:Int)).bind λy8=>bif aT (((E++I)++L).size+y8.size)then (Dp C.errors).bind λy9=>bif aT (Z.size+y9.size)then some ([(T++y2),(U++y3),(((D++F)++O)++y5),(Y++y6),(((E++I)++L)++y8),(Z++y9)]:aa ByteArray)else none else none else none else none else none else none else none else none else none else none
def apl:=bK [(true,.cX)] [(false,(.sl .str),2)] (bS Na) 46 [abU,abW,api,MZ,apk] func9
def Iq(C:Int):ah (Int):=bif C<10 then some (IntKind.u8.wrap (W6 (48+C)))else some (IntKind.u8.wrap (W6 ((W6 (97+C))-10)))
def apm:=bK lZ [(false,.u8,0)] (bS Iq) 12 [] func21
abbrev acC:=((Int×Bool×ByteArray×af)×(af))
def TA(x:acC):ah (acC⊕(((Bool×ByteArray×af)×(af))⊕Empty)):=letI D:=x.1.1.tmod 10;letI C:=x.1.2.2.1;bif (x.1.1 != 0)then bif D<0 then (Iq (W6 (0-D))).bind λI=>letI E:=strOfNums ([I]:aa Int);bif aT (E.size+C.size)then xG (((W6 (x.1.1.tdiv 10)),x.1.2.1,(E++C),()),())else none else (Iq D).bind λL=>letI F:=strOfNums ([L]:aa Int);bif aT (F.size+C.size)then xG (((W6 (x.1.1.tdiv 10)),x.1.2.1,(F++C),()),())else none else ay ((x.1.2.1,C,()),())
def apn:KY 30 (bw f10):=⟨0,lB 0 ⟨[(0,tI),(3,tB),(4,.lf (.str))],[],[]⟩ [(2,⟨[(3,tB),(4,.lf (.str))],[],[]⟩)] TA,lp [apm]⟩
def Ir(D:Int):ah (ByteArray):=bif (D==0)then some (ByteArray.mk #[48])else aZ TA ((D,(decide (D<0)),(ByteArray.mk #[]),()),()) λC=>bif C.1.1 then bif aT ((ByteArray.mk #[45]).size+C.1.2.1.size)then some ((ByteArray.mk #[45])++C.1.2.1)else none else some C.1.2.1
def apo:=cA lZ [(false,.str,0)] (bS Ir) 30 [] [apn] func10
def TB(E:aa Int):ah (Bool):=letI F:=ByteArray.mk #[110,111,119,32];letI I:=ByteArray.mk #[114,97,110,107,32];letI L:=ByteArray.mk #[101,114,114,111,114,115,32];(SS E).bind λy1=>bif y1 then some true else (Ly E).bind λO=>(F9 O).bind λT=>(Lz T).bind λU=>(MY E).bind λD=>(Na D).bind λC=>bif ((T.size:Int)==8)then bif U.2 then bif (U.1==O)then bif ((C.length:Int)==6)then if h7:0 <= (0:Int)/\(0:Int).toNat<C.length then if h8:(0:Int).toNat<C.length then (let e9:=C[(0:Int).toNat]'h8;(Ir D.now).bind λY=>bif aT (F.size+Y.size)then bif (e9.toList==(F++Y).toList)then if yC:0 <= (1:Int)/\(1:Int).toNat<C.length then if pK:(1:Int).toNat<C.length then (let e13:=C[(1:Int).toNat]'pK;(Dn D.aU).bind λZ=>bif aT (I.size+Z.size)then bif (e13.toList==(I++Z).toList)then if tU:0 <= (5:Int)/\(5:Int).toNat<C.length then if qQ:(5:Int).toNat<C.length then (let Tg:=C[(5:Int).toNat]'qQ;(Dp D.errors).bind λpY=>bif aT (L.size+pY.size)then some (Tg.toList==(L++pY).toList)else none)else none else none else some false else none)else none else none else some false else none)else none else none else some false else some false else some false else some false
def apq:ji:=jI [(false,(.sl .u8))] [(false,.bool,0)] (λx=>TB x.1)
def apr:enters Tryz.prog 3/\iY Tryz.prog 3 apq:=kp 70 [ak6,ak8,ala,alc,aoo,apl,apo,abU,abW] func3
end Go.Proofs.YthmgjjfedieljaaGreatDoor
