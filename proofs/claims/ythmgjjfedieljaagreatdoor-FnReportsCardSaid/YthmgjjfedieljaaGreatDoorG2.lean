/-
  Functions of the program as plain functions of contents, and that the code computes them. Nothing here is a claim.
-/
import Derived.Test.YthmgjjfedieljaaGreatDoorVZ
import Derived.Test.YthmgjjfedieljaaGreatDoorRows
import Derived.Test.YthmgjjfedieljaaGreatDoorExt
import Derived.Test.YthmgjjfedieljaaGreatDoorG1
namespace Go.Proofs.YthmgjjfedieljaaGreatDoor
set_option linter.defProp false
open Go.RowKit Go.Proofs.Tryz
set_option linter.unusedVariables false
set_option maxRecDepth 100000
def CU(C:Int):ah (cg×Bool):=(cx C 1 16).bind λD=>bif (!D)then some ((⟨[],[],0⟩:cg),false)else (Gi C).bind λE=>if 0 <= C/\C <= C/\C<1073741824 then some ((⟨E,(List.replicate C.toNat (0:Int)),0⟩:cg),true)else none
def Z6:=bK lZ [(true,.jR,2),(false,.bool,0)] (bS CU) 13 [eD,Z4] func87
def S1(C:Int):ah (nA×Bool):=(cx C 1 100000).bind λD=>bif (!D)then some ((⟨0,0,0⟩:nA),false)else some ((⟨0,C,C⟩:nA),true)
def alA:=bK lZ [(true,.sV,0),(false,.bool,0)] (bS S1) 11 [eD] func89
def alB:cc:=⟨[(2,.aI 2 0),(3,.aI 3 0),(4,.aI 4 0),(6,.aI 6 0),(7,tI),(8,tI)],[(2,.st .Config),(3,.blk Zs)],Zl⟩
def alC:aa (Nat×cc):=[(2,⟨[(3,.aI 3 0),(4,.aI 4 0),(6,.aI 6 0)],[(3,.blk Zs)],Zl⟩)]
abbrev Z7:=((af×af×af×af×Int×Int×af)×(ak×ak×eH×(Int×Int×Int×Int×Int×(aa Int)×Int×Int×af)×af))
def CV(x:Z7):ah (Z7⊕(((af×af×af×af)×(ak×ak×(Int×Int×Int×Int×Int×(aa Int)×Int×Int×af)×af))⊕Empty)):=letI E:=x.2.2.2.2.1;letI F:=([E.2.2.1]:aa Int);letI D:=x.1.2.2.2.2;letI C:=x.2.2.1;bif D.2.1<D.1 then (CU x.2.2.2.1.ic).bind λI=>bif aT (C.bI.length+[I.1].length)then bif aT (C.guard.length+F.length)then xG (((),(),(),(),D.1,(W6 (D.2.1+1)),()),(x.2.1,{C with bI:=(C.bI++[I.1]),guard:=(C.guard++F)},x.2.2.2.1,E,()))else none else none else ay (((),(),(),()),(x.2.1,C,E,()))
def alD:KY 95 (bw f54):=⟨0,lB 0 alB alC CV,lp [Z6]⟩
def LO(D:eH)(C:dy):ah (ak×Bool):=(Aw D C).bind λI=>bif (!I)then some ((⟨⟨⟨0,0,0,0⟩,⟨0,0,0,0,0,0,0,0,0,0,0,0,0,0,0,0,0⟩,⟨0,false⟩,0,0,0,⟨0,0⟩⟩,⟨⟨0,0,0,0,0,[],⟨0,0⟩⟩,⟨0,0,0,0,0,[],⟨0,0⟩⟩,false⟩,0,⟨[],0⟩,⟨[],[]⟩,⟨[],[],[]⟩,⟨0,[]⟩,⟨[],0,false⟩,[],[],[],[],[],⟨false,0,0⟩,⟨0,0,0⟩,⟨0,0,0⟩,[],[],[]⟩:ak),false)else (LI D.av).bind λL=>(LJ D.av).bind λO=>(LK D.av).bind λT=>(kV D.av).bind λE=>(LM C).bind λU=>(CP D.av D.bC).bind λY=>(LN E D.interval).bind λZ=>aZ CV (((),(),(),(),E,0,()),((⟨⟨⟨0,0,0,0⟩,⟨0,0,0,0,0,0,0,0,0,0,0,0,0,0,0,0,0⟩,⟨0,false⟩,0,0,0,⟨0,0⟩⟩,⟨⟨0,0,0,0,0,([]:aa Int),⟨0,0⟩⟩,⟨0,0,0,0,0,([]:aa Int),⟨0,0⟩⟩,false⟩,0,⟨([]:aa ep),0⟩,⟨([]:aa Int),([]:aa Int)⟩,⟨([]:aa bV),([]:aa Int),([]:aa Int)⟩,⟨0,([]:aa Int)⟩,⟨([]:aa Int),0,false⟩,([]:aa cg),([]:aa Int),([]:aa aG),([]:aa aP),([]:aa ct),⟨false,0,0⟩,⟨0,0,0⟩,⟨0,0,0⟩,([]:aa bT),([]:aa fR),([]:aa fm)⟩:ak),(⟨D,U.1,0,L,O,T,Y.1,Z.1,([]:aa cg),([]:aa Int),([]:aa aG),([]:aa aP),([]:aa ct),⟨false,C.low,C.high⟩,⟨0,0,0⟩,⟨0,0,0⟩,([]:aa bT),([]:aa fR),([]:aa fm)⟩:ak),D,(C.eV,C.cap,C.eK,C.low,C.high,C.weights,C.dQ.down,C.dQ.sleep,()),())) λF=>letI u0:=F.2.2.1;(x9 F.2.2.2.1.2.2.2.2.2.1).bind λiw=>(S1 10).bind λiQ=>some ({u0 with shares:=iw.1,cJ:=iQ.1},true)
def alE:=cA SN [(true,.cX,4),(false,.bool,0)] (cz LO) 95 [Z2,alq,als,alx,ko,aly,SW,alz,SY,alA] [alD] func54
def LP(C D:aP):ah (Bool):=bif C.at_<D.at_ then some true else bif (C.at_==D.at_)then some (C.id<D.id)else some false
def Z8:=bK [(true,.eI),(true,.eI)] cG (cz LP) 24 [] func155
def Gl(C:Int):ah (Bool):=(cx C 0 4294967295).bind λD=>some D
def Z9:=bK lZ cG (bS Gl) 5 [eD] func223
def LQ(E:Int)(C:aP):ah (Bool):=letI D:=(cx C.at_ 0 1000000).bind λF=>some F;(cx C.id 1 100000).bind λI=>bif I then (cx C.dB 0 3).bind λL=>bif L then bif C.line >= 0 then bif C.line<E then (Gl C.data).bind λO=>bif O then bif C.write then D else bif (C.data==0)then D else some false else some false else some false else some false else some false else some false
def alF:=bK [(false,.int),(true,.eI)] cG (cz LQ) 43 [eD,Z9] func186
abbrev aaa:=(((aa aP)×Int×Int×af)×(af))
def Gm(x:aaa):ah (aaa⊕(((Int×af)×(af))⊕(((af)×(af))⊕Empty))):=letI C:=x.1.2.2.1;bif C<(x.1.1.length:Int)then xI x.1.1 C λD=>bif (D.id==x.1.2.1)then ay ((C,()),())else xG ((x.1.1,x.1.2.1,(W6 (C+1)),()),())else aY ((),())
def alG:KY 20 (bw f187):=⟨0,lB 0 ZB [(1,CM),(2,jk)] Gm,lp []⟩
def Gn(C:aa aP)(D:Int):ah (Int):=bO Gm ((C,D,0,()),()) (λE=>some E.1.1) λF=>some (-1)
def aab:=cA SI eZ (cz Gn) 20 [] [alG] func187
abbrev aac:=((Int×(aa aP)×Int×af)×(af))
def Gq(x:aac):ah (aac⊕(((Bool×af)×(af))⊕(((af)×(af))⊕Empty))):=letI E:=ay ((false,()),());letI D:=x.1.2.1;letI C:=x.1.2.2.1;letI F:=xI D C λI=>(Gn D I.id).bind λL=>bif (L != C)then E else xG ((x.1.1,D,(W6 (C+1)),()),());bif C<(D.length:Int)then xI D C λO=>(LQ x.1.1 O).bind λT=>bif (!T)then E else bif C > 0 then xI D (W6 (C-1)) λU=>xI D C λY=>(LP U Y).bind λZ=>bif (!Z)then E else F else F else aY ((),())
def alH:KY 50 (bw f156):=⟨0,lB 0 ⟨[(0,tI),(1,.lf (.aF .eI 0)),(5,tI)],[],[]⟩ [(1,kU),(2,jk)] Gq,lp [Z8,alF,aab]⟩
def vG(D:Int)(C:aa aP):ah (Bool):=bif (C.length:Int) > 12 then some false else bO Gq ((D,C,0,()),()) (λE=>some E.1.1) λF=>some true
def alI:=cA [(false,.int),(false,(.sl .eI))] cG (cz vG) 50 [] [alH] func156
abbrev aad:=((Int×(aa aP)×af×af×Bool×Int×af)×((Int×Int×Int×Bool×Int×Int×af)×(aa aP)×af))
def Gr(x:aad):ah (aad⊕(((Int×(aa aP)×af×af×Bool×af)×((Int×Int×Int×Bool×Int×Int×af)×(aa aP)×af))⊕Empty)):=letI C:=x.2.1;letI E:=x.2.2.1;letI D:=x.1.2.1;letI I:=x.1.2.2.2.2;letI F:=I.2.1;letI O:=xI D F λT=>bif aT (E.length+([T]:aa aP).length)then xG ((x.1.1,D,(),(),I.1,(W6 (F+1)),()),(C,(E++([T]:aa aP)),()))else none;letI U:=(⟨C.1,C.2.1,C.2.2.1,C.2.2.2.1,C.2.2.2.2.1,C.2.2.2.2.2.1⟩:aP);letI L:=([U]:aa aP);bif F<(D.length:Int)then bif (!I.1)then xI D F λZ=>(LP U Z).bind λy3=>bif y3 then bif aT (E.length+L.length)then xI D F λY=>bif aT ((E++L).length+([Y]:aa aP).length)then xG ((x.1.1,D,(),(),true,(W6 (F+1)),()),(C,((E++L)++([Y]:aa aP)),()))else none else none else O else O else ay ((x.1.1,D,(),(),I.1,()),(C,E,()))
def alJ:KY 59 (bw f128):=⟨0,lB 0 ⟨[(0,tI),(1,.lf (.aF .eI 0)),(5,.aI 5 0),(8,.lf (.own 11)),(9,tB),(10,tI)],[(5,.blk F5),(11,.sl .eI 2)],[]⟩ [(2,⟨[(0,tI),(1,.lf (.aF .eI 0)),(5,.aI 5 0),(8,.lf (.own 11)),(9,tB)],[(5,.blk F5),(11,.sl .eI 2)],[]⟩)] Gr,lp [Z8]⟩
def LR(T:Int)(U:aa aP)(E:aP):ah ((aa aP)×Bool):=aZ Gr ((T,U,(),(),false,0,()),((E.id,E.dB,E.line,E.write,E.data,E.at_,()),([]:aa aP),())) λO=>letI C:=O.1;letI D:=O.2;letI F:=D.1.2.2;letI I:=bif xZ C.2.1 then some ((xA C.2.1),false)else none;letI L:=([(⟨D.1.1,D.1.2.1,F.1,F.2.1,F.2.2.1,F.2.2.2.1⟩:aP)]:aa aP);bif (!C.2.2.2.2.1)then bif aT (D.2.1.length+L.length)then (vG C.1 C.2.1).bind λY=>bif (!Y)then I else (vG C.1 (D.2.1++L)).bind λZ=>bif (!Z)then I else some ((D.2.1++L),true)else none else (vG C.1 C.2.1).bind λmJ=>bif (!mJ)then I else (vG C.1 D.2.1).bind λmK=>bif (!mK)then I else some (D.2.1,true)
def alK:=cA [(false,.int),(false,(.sl .eI)),(true,.eI)] [(false,(.sl .eI),2),(false,.bool,0)] (jK LR) 59 [alI] [alJ] func128
def alL:cc:=⟨[(0,.aI 20000 0),(3,.aI 3 0),(5,.aI 5 0),(6,tI)],[(3,.blk F5),(5,.blk gK)],nZ⟩
def alM:aa (Nat×cc):=[(1,⟨[(4,tB)],[],nZ⟩),(2,⟨[(0,.aI 20000 0),(3,.aI 3 0),(5,.aI 5 0)],[(3,.blk F5),(5,.blk gK)],nZ⟩)]
abbrev aae:=((af×af×af×Int×af)×(ak×(Int×Int×Int×Bool×Int×Int×af)×(Int×Int×Int×Int×af)×af))
def Gs(x:aae):ah (aae⊕(((Bool×af)×(ak×af))⊕(((af×af×af×af)×(ak×(Int×Int×Int×Bool×Int×Int×af)×(Int×Int×Int×Int×af)×af))⊕Empty))):=letI C:=x.1.2.2.2.1;letI D:=(x.2.1,x.2.2.1,x.2.2.2.1,());bif C<(x.2.1.bY.length:Int)then xL x.2.1.bY C λE=>bif (E.id==x.2.2.1.1)then ay ((false,()),(x.2.1,()))else xG (((),(),(),(W6 (C+1)),()),D)else aY (((),(),(),()),D)
def alN:KY 65 (bw f90):=⟨0,lB 0 alL alM Gs,lp []⟩
def LS(D:ak)(E:aP):ah ((Bool)×(ak×af)):=bO Gs (((),(),(),0,()),(D,(E.id,E.dB,E.line,E.write,E.data,E.at_,()),(D.config.av.bX,D.config.av.aB,(W6 (D.config.av.rows-D.config.bC)),D.config.av.aK,()),())) (λL=>some (L.1.1,(L.2.1,()))) λO=>letI C:=O.2.2;letI F:=O.2.1;(sj (⟨C.2.1.1,C.2.1.2.1,C.2.1.2.2.1,C.2.1.2.2.2.1⟩:aL)).bind λT=>(LR T F.queue (⟨C.1.1,C.1.2.1,C.1.2.2.1,C.1.2.2.2.1,C.1.2.2.2.2.1,F.now⟩:aP)).bind λI=>bif I.2 then some (I.2,({F with queue:=I.1},()))else some (I.2,(F,()))
def alO:=pV [.p .cX 4 0,.v true .eI] cG (cz LS) 65 [Gj,alK] [alN] func90
def Gt(C:iA)(D:Int):ah (iA):=letI E:=some (⟨false,C.low,C.high⟩:iA);(CS C).bind λF=>bif (!F)then some C else bif D >= C.high then bif D <= C.low then E else some (⟨true,C.low,C.high⟩:iA)else bif D <= C.low then E else some C
def alP:=bK [(true,.qf),(false,.int)] [(true,.qf,0)] (cz Gt) 20 [SZ] func131
abbrev aaf:=(((aa aP)×Bool×Int×Int×af)×(af))
def Gu(x:aaf):ah (aaf⊕(((Int×af)×(af))⊕Empty)):=letI C:=x.1.2.2;bif C.2.1<(x.1.1.length:Int)then xI x.1.1 C.2.1 λD=>bif (D.write==x.1.2.1)then xG ((x.1.1,x.1.2.1,(W6 (C.1+1)),(W6 (C.2.1+1)),()),())else xG ((x.1.1,x.1.2.1,C.1,(W6 (C.2.1+1)),()),())else ay ((C.1,()),())
def alQ:KY 23 (bw f132):=⟨0,lB 0 ⟨[(0,.lf (.aF .eI 0)),(1,tB),(5,tI),(6,tI)],[],[]⟩ [(2,CN)] Gu,lp []⟩
def Gw(C:aa aP)(D:Bool):ah (Int):=aZ Gu ((C,D,0,0,()),()) λE=>some E.1.1
def alR:=cA [(false,(.sl .eI)),(false,.bool)] eZ (cz Gw) 23 [] [alQ] func132
def vH(C:eU):ah (Bool):=(cx C.state 0 2).bind λD=>bif D then (cx C.since 0 1000000).bind λE=>bif E then (cx C.idle 0 1000000).bind λF=>some F else some false else some false
def S2:=bK [(true,.Power)] cG (bS vH) 16 [eD] func157
def Gx(C:eU)(E:Bool):ah (eU):=letI D:=W6 (C.idle+1);(vH C).bind λF=>bif (!F)then some C else bif E then some (⟨C.state,C.since,0⟩:eU)else some (⟨C.state,C.since,(if 1000000<D then 1000000 else D)⟩:eU)
def alS:=bK [(true,.Power),(false,.bool)] [(true,.Power,0)] (cz Gx) 17 [S2] func133
abbrev aag:=((af×Int×af)×(((aa Int)×Int×Bool×af)×af))
def Gy(x:aag):ah (aag⊕(((Bool×af)×(af))⊕(((af×af)×(((aa Int)×Int×Bool×af)×af))⊕Empty))):=bif x.1.2.1<(x.2.1.1.length:Int)then xI x.2.1.1 x.1.2.1 λC=>(cx C (-2) 5).bind λD=>bif (!D)then ay ((false,()),())else xG (((),(W6 (x.1.2.1+1)),()),(x.2.1,()))else aY (((),()),(x.2.1,()))
def alT:KY 27 (bw f142):=⟨0,lB 0 ⟨[(1,.aI 1 0),(3,tI)],[(1,.blk F3)],[]⟩ [(1,oE),(2,ZE)] Gy,lp [eD]⟩
def Ax(C:cW):ah (Bool):=bO Gy (((),0,()),((C.aO,C.wait,C.ei,()),())) (λE=>some E.1.1) λD=>(cx (D.2.1.1.length:Int) 1 8).bind λF=>bif F then (cx D.2.1.2.1 1 10000).bind λI=>some I else some false
def LU:=cA [(true,.kE)] cG (bS Ax) 27 [eD] [alT] func142
abbrev aah:=((af×af×Int×af)×(((aa Int)×Int×Bool×af)×(aa Int)×af))
def Gz(x:aah):ah (aah⊕(((af×af)×((aa Int)×af))⊕Empty)):=letI C:=x.2.1;letI E:=ay (((),()),(x.2.2.1,()));letI D:=x.1.2.2.1;letI F:=((),(),(W6 (D+1)),());bif D<(C.1.length:Int)then (Ax (⟨C.1,C.2.1,C.2.2.1⟩:cW)).bind λI=>bif I then xI C.1 D λL=>bif L >= 4 then bif aT (x.2.2.1.length+([D]:aa Int).length)then xG (F,(C,(x.2.2.1++([D]:aa Int)),()))else none else xG (F,(C,x.2.2.1,()))else E else E
def alU:KY 28 (bw f158):=⟨0,lB 0 ⟨ZM,[(1,.blk F3),(5,.sl .int 2)],[]⟩ [(2,SG)] Gz,lp [LU]⟩
def GA(C:cW):ah ((aa Int)):=aZ Gz (((),(),0,()),((C.aO,C.wait,C.ei,()),([]:aa Int),())) λD=>some D.2.1
def aai:=cA [(true,.kE)] sg (bS GA) 28 [] [alU] func158
def Ay(C:ak):ah (Bool):=bif (C.queue.length:Int) > 0 then some true else bif (C.pending.length:Int) > 0 then some true else (GA C.aX).bind λD=>some ((D.length:Int) > 0)
def S3:ji:=jI [(false,.jS)] [(false,.bool,0)] (λx=>Ay x.1)
def aaj:enters Tryz.prog 134/\iY Tryz.prog 134 S3:=kp 26 [aai] func134
def GB(C:gH):ah (gH):=(tP C.bU).bind λD=>(tP C.next).bind λE=>some (⟨D,E,C.waits⟩:gH)
def S4:=bK [(true,.qg)] [(true,.qg,2)] (bS GB) 12 [LL] func99
def GC(C:gH)(E:Bool):ah (gH×Bool):=(GB C).bind λD=>bif (!E)then some (D,false)else bif (!C.waits)then some (D,false)else (tP C.next).bind λF=>some ((⟨F,D.next,false⟩:gH),true)
def alV:=bK [(true,.qg),(false,.bool)] SJ (cz GC) 23 [S4,LL] func135
def Az(C:nA)(E:Int):ah (nA×Int):=letI D:=some (C,(-1));(cx C.every 1 100000).bind λF=>bif (!F)then D else (cx C.wait 1 C.every).bind λI=>bif (!I)then D else bif E<1 then D else bif C.next<0 then D else bif C.next >= E then D else bif (W6 (C.wait-1)) > 0 then some ((⟨C.next,C.every,(W6 (C.wait-1))⟩:nA),(-1))else if E=0 then none else some ((⟨((W6 (C.next+1)).tmod E),C.every,C.every⟩:nA),C.next)
def alW:=bK [(true,.sV),(false,.int)] [(true,.sV,0),(false,.int,0)] (cz Az) 55 [eD] func136
def vI(C:Int):ah (Bool):=(cx C 0 15).bind λD=>some D
def LV:=bK lZ cG (bS vI) 5 [eD] func94
abbrev aak:=(((aa Int)×Int×Int×af)×(af))
def ya(x:aak):ah (aak⊕(((Bool×af)×(af))⊕((((aa Int)×Int×af)×(af))⊕Empty))):=bif x.1.2.2.1<(x.1.1.length:Int)then xI x.1.1 x.1.2.2.1 λC=>(vI C).bind λD=>bif (!D)then ay ((false,()),())else xG ((x.1.1,x.1.2.1,(W6 (x.1.2.2.1+1)),()),())else aY ((x.1.1,x.1.2.1,()),())
def alX:KY 22 (bw f224):=⟨0,lB 0 ZC [(1,kU),(2,ZA)] ya,lp [LV]⟩
def tQ(D:aa Int)(E:Int):ah (Bool):=bO ya ((D,E,0,()),()) (λF=>some F.1.1) λC=>some ((C.1.1.length:Int)==C.1.2.1)
def GD:=cA F4 cG (cz tQ) 22 [] [alX] func224
abbrev aal:=((Int×Int×Int×Int×af)×(af))
def aam(x:aal):ah (aal⊕(((Int×af)×(af))⊕Empty)):=letI C:=x.1.2;letI D:=C.2.2.1;letI E:=min (IntKind.u64.wrap D).toNat IntKind.i64.bits;bif D<4 then if (IntKind.u64.wrap D)<0 then none else bif ((bits .and .i64 (C.1.fdiv (2 ^ E)) 1)==1)then if (IntKind.u64.wrap D)<0 then none else xG ((x.1.1,C.1,(bits .xor .i64 C.2.1 (W6 (x.1.1*2 ^ E))),(W6 (D+1)),()),())else xG ((x.1.1,C.1,C.2.1,(W6 (D+1)),()),())else ay ((C.2.1,()),())
def alY:KY 49 (bw f228):=⟨0,lB 0 Zy [(2,CN)] aam,lp []⟩
abbrev aan:=((Int×Int×af)×(af))
def aao(x:aan):ah (aan⊕(((Int×af)×(af))⊕Empty)):=letI C:=x.1.2.1;bif C >= 4 then if (IntKind.u64.wrap C)<0 then none else bif ((bits .and .i64 (x.1.1.fdiv (2 ^ (min (IntKind.u64.wrap C).toNat IntKind.i64.bits))) 1)==1)then if (IntKind.u64.wrap (W6 (C-4)))<0 then none else xG (((bits .xor .i64 x.1.1 (W6 ((19:Int)*2 ^ (min (IntKind.u64.wrap (W6 (C-4))).toNat IntKind.i64.bits)))),(W6 (C-1)),()),())else xG ((x.1.1,(W6 (C-1)),()),())else ay ((x.1.1,()),())
def alZ:KY 49 (bw f228):=⟨2,lB 2 ⟨[(5,tI),(7,tI)],[],[]⟩ [(4,CN)] aao,lp []⟩
def sk(C D:Int):ah (Int):=(vI C).bind λE=>bif (!E)then some (-1)else (vI D).bind λF=>bif (!F)then some (-1)else aZ aam ((C,D,0,0,()),()) λI=>aZ aao ((I.1.1,6,()),()) λL=>some L.1.1
def GF:=cA Lv eZ (cz sk) 49 [LV] [alY,alZ] func228
abbrev aap:=((Int×Int×Int×Int×af)×(af))
def aaq(x:aap):ah (aap⊕(((Int×af)×(af))⊕Empty)):=bif x.1.2.2.2.1<x.1.2.1 then (sk x.1.2.2.1 x.1.1).bind λC=>xG ((x.1.1,x.1.2.1,C,(W6 (x.1.2.2.2.1+1)),()),())else ay ((x.1.2.2.1,()),())
def al0:KY 24 (bw f227):=⟨0,lB 0 Zy [(2,CN)] aaq,lp [GF]⟩
def CW(C D:Int):ah (Int):=(vI C).bind λE=>bif (!E)then some (-1)else (cx D 0 1000).bind λF=>bif (!F)then some (-1)else aZ aaq ((C,D,1,0,()),()) λI=>some I.1.1
def S5:=cA Lv eZ (cz CW) 24 [eD,LV] [al0] func227
abbrev aar:=(((aa Int)×af×Int×Int×Int×Int×af)×((aa Int)×af))
def CX(x:aar):ah (aar⊕((((aa Int)×af×Int×af)×((aa Int)×af))⊕Empty)):=letI C:=x.1.2.2.2;letI D:=C.2.2.1;bif D<3 then xL x.2.1 D λE=>xI x.1.1 x.1.2.2.1 λF=>(sk F C.1).bind λI=>xL x.2.1 D λO=>(sk C.1 C.2.1).bind λL=>xG ((x.1.1,(),x.1.2.2.1,L,C.2.1,(W6 (D+1)),()),((x.2.1.set D.toNat (bits .xor .i64 E I)),()))else ay ((x.1.1,(),x.1.2.2.1,()),(x.2.1,()))
def al1:KY 43 (r9 (bw f225) 0):=⟨2,lB 2 ⟨[(0,.lf (.aF .int 0)),(3,.lf (.own 12)),(4,tI),(5,tI),(6,tI),(7,tI)],[(12,.sl .int 2)],[]⟩ [(4,Zt)] CX,lp [GF]⟩
abbrev aas:=(((aa Int)×af×Int×af)×((aa Int)×af))
def GG(x:aas):ah (aas⊕(((af×af)×((aa Int)×af))⊕Empty)):=bif x.1.2.2.1<(x.1.1.length:Int)then (CW 2 x.1.2.2.1).bind λD=>aZ CX ((x.1.1,(),x.1.2.2.1,1,D,0,()),(x.2.1,())) λC=>xG ((C.1.1,(),(W6 (C.1.2.2.1+1)),()),(C.2.1,()))else ay (((),()),(x.2.1,()))
def al2:KY 43 (bw f225):=⟨0,lB 0 Zt [(2,⟨[(3,.lf (.own 12))],[(12,.sl .int 2)],[]⟩)] GG,lq [S5] [al1]⟩
def LW(C:aa Int):ah ((aa Int)):=(tQ C 11).bind λD=>bif (!D)then some ([]:aa Int)else if 0 <= (3:Int)/\(3:Int) <= 3/\(3:Int)<1073741824 then aZ GG ((C,(),0,()),((List.replicate (3:Int).toNat (0:Int)),())) λE=>some E.2.1 else none
def al3:=cA tN sg (bS LW) 43 [GD] [al2] func225
def CY(C:aa Int):ah (Bool):=xI C (0:Int) λD=>bif (D==0)then xI C (1:Int) λE=>bif (E==0)then xI C (2:Int) λF=>some (F==0)else some false else some false
def al4:=bK tN cG (bS CY) 19 [] func226
abbrev aat:=((af×af×Int×af)×((aa Int)×(aa Int)×af))
def AA(x:aat):ah (aat⊕(((af×Int×Int×af)×((aa Int)×af))⊕(((af×af)×((aa Int)×af))⊕Empty))):=letI C:=x.2.2.1;letI D:=x.1.2.2.1;letI E:=xG (((),(),(W6 (D+1)),()),(x.2.1,C,()));bif D<11 then (CW 2 D).bind λF=>xL C (0:Int) λI=>bif (I != 0)then xL C (0:Int) λL=>xL C (1:Int) λO=>(sk L F).bind λT=>bif (T==O)then xL C (1:Int) λU=>xL C (2:Int) λY=>(sk U F).bind λZ=>bif (Z==Y)then xL x.2.1 D λS6=>xL C (0:Int) λqN=>xL x.2.1 D λtR=>ay (((),1,D,()),((x.2.1.set D.toNat (bits .xor .i64 S6 qN)),()))else E else E else E else aY (((),()),(x.2.1,()))
def al5:KY 67 (bw f188):=⟨0,lB 0 ⟨[(5,.lf (.own 13)),(6,.lf (.own 1000000000117000)),(7,tI)],[(13,.sl .int 2),(1000000000117000,.sl .int 2)],[]⟩ [(1,⟨[(2,.lf (.own 13)),(3,tI),(4,tI)],[(13,.sl .int 2)],[]⟩),(2,⟨[(5,.lf (.own 13))],[(13,.sl .int 2)],[]⟩)] AA,lp [S5,GF]⟩
def LX(C:aa Int):ah ((aa Int)×Int×Int):=(tQ C 11).bind λF=>bif (!F)then some (([]:aa Int),2,(-1))else bif xZ C then (LW C).bind λE=>(CY E).bind λI=>bif I then some ((xA C),0,(-1))else bO AA (((),(),0,()),((xA C),E,())) (λD=>some (D.2.1,D.1.2.1,D.1.2.2.1)) λL=>some (L.2.1,2,(-1))else none
def al6:=cA tN [(false,(.sl .int),2),(false,.int,0),(false,.int,0)] (bS LX) 67 [GD,al3,al4] [al5] func188
abbrev aau:=(((aa Int)×Int×Int×af)×(af))
def GH(x:aau):ah (aau⊕(((Int×af)×(af))⊕Empty)):=letI C:=x.1.2.2.1;bif C<(x.1.1.length:Int)then xI x.1.1 C λD=>if (IntKind.u64.wrap (W6 (4*C)))<0 then none else xG ((x.1.1,(bits .or .i64 x.1.2.1 (W6 (D*2 ^ (min (IntKind.u64.wrap (W6 (4*C))).toNat IntKind.i64.bits)))),(W6 (C+1)),()),())else ay ((x.1.2.1,()),())
def al7:KY 26 (bw f189):=⟨0,lB 0 ⟨[(0,.lf (.aF .int 0)),(4,tI),(5,tI)],[],[]⟩ [(2,CM)] GH,lp []⟩
def LY(C:aa Int):ah (Int×Bool):=(tQ C 8).bind λD=>bif (!D)then some (0,false)else aZ GH ((C,0,0,()),()) λE=>some (E.1.1,true)
def al8:=cA tN [(false,.int,0),(false,.bool,0)] (bS LY) 26 [GD] [al7] func189
def LZ(D:aa Int):ah ((aa Int)):=letI C:=(D.length:Int);letI E:=(D.take C.toNat).drop (3:Int).toNat;(tQ D 11).bind λF=>bif (!F)then some ([]:aa Int)else if 0 <= (3:Int)/\3 <= C/\C <= C then bif xZ E then some (xA E)else none else none
def al9:=bK tN sg (bS LZ) 11 [GD] func190
def L0(D:aa Int):ah (Int×Int×Int):=(LX D).bind λC=>bif (C.2.1==2)then some (0,C.2.1,C.2.2)else (LZ C.1).bind λE=>(LY E).bind λF=>some (F.1,C.2.1,C.2.2)
def ama:=bK tN [(false,.int,0),(false,.int,0),(false,.int,0)] (bS L0) 29 [al6,al8,al9] func159
abbrev aav:=((af×af×Int×af×Int×af)×((aa Int)×(aa Int)×(aa Int)×af))
def aaw(x:aav):ah (aav⊕(((af×Int×af×af)×((aa Int)×(aa Int)×af))⊕Empty)):=letI C:=x.2.2;letI D:=x.1.2.2.2.2.1;letI E:=W6 (D+1);bif D<(C.1.length:Int)then xL C.2.1 E λI=>xL C.1 D λL=>letI F:=C.2.1.set E.toNat (bits .xor .i64 I L);xL C.2.1 E λZ=>xL F D λO=>xL C.1 D λT=>(CW 2 x.1.2.2.1).bind λU=>(sk T U).bind λY=>xL F D λe42=>xG (((),(),x.1.2.2.1,(),E,()),(x.2.1,C.1,(F.set D.toNat (bits .xor .i64 O Y)),()))else ay (((),x.1.2.2.1,(),()),(x.2.1,C.2.1,()))
def amb:KY 116 (r9 (bw f191) 0):=⟨2,lB 2 ⟨[(3,.lf (.own 18)),(4,.lf (.own 99004)),(5,tI),(6,.lf (.own 29)),(7,tI)],[(18,.sl .int 2),(99004,.sl .int 2),(29,.sl .int 2)],[]⟩ [(4,⟨[(3,.lf (.own 18)),(5,tI),(6,.lf (.own 29))],[(18,.sl .int 2),(29,.sl .int 2)],[]⟩)] aaw,lp [S5,GF]⟩
abbrev aax:=((af×af×Int×af)×((aa Int)×(aa Int)×af))
def S7(x:aax):ah (aax⊕(((af×af×af)×((aa Int)×(aa Int)×af))⊕Empty)):=letI C:=W6 ((x.2.2.1.length:Int)+1);bif x.1.2.2.1<3 then if 0 <= C/\C <= C/\C<1073741824 then aZ aaw (((),(),x.1.2.2.1,(),0,()),(x.2.1,x.2.2.1,(List.replicate C.toNat (0:Int)),())) λD=>xG (((),(),(W6 (D.1.2.1+1)),()),(D.2.1,D.2.2.1,()))else none else ay (((),(),()),(x.2.1,x.2.2.1,()))
def amc:KY 116 (bw f191):=⟨0,lB 0 ⟨[(3,.lf (.own 18)),(4,.lf (.own 99004)),(5,tI)],[(18,.sl .int 2),(99004,.sl .int 2)],[]⟩ [(2,⟨[(3,.lf (.own 18)),(4,.lf (.own 99004))],[(18,.sl .int 2),(99004,.sl .int 2)],[]⟩)] S7,lq [] [amb]⟩
abbrev aay:=((af×af×af×Int×Int×Int×af)×((aa Int)×(aa Int)×(aa Int)×af))
def CZ(x:aay):ah (aay⊕(((af×af×af×Int×af)×((aa Int)×(aa Int)×(aa Int)×af))⊕Empty)):=letI C:=x.2.2;letI D:=x.1.2.2.2;letI E:=D.2.2.1;letI F:=W6 ((W6 (D.1-3))+E);bif E<(C.1.length:Int)then xL C.2.1 F λI=>xL C.1 E λL=>(sk L D.2.1).bind λO=>xL C.2.1 F λT=>xG (((),(),(),D.1,D.2.1,(W6 (E+1)),()),(x.2.1,C.1,(C.2.1.set F.toNat (bits .xor .i64 I O)),()))else ay (((),(),(),D.1,()),(x.2.1,C.1,C.2.1,()))
def amd:KY 116 (r9 (bw f191) 4):=⟨6,lB 6 ⟨[(3,.lf (.own 18)),(4,.lf (.own 99004)),(8,.lf (.own 66)),(9,tI),(10,tI),(11,tI)],Zo,[]⟩ [(8,Zp)] CZ,lp [GF]⟩
abbrev aaz:=((af×af×af×Int×af)×((aa Int)×(aa Int)×(aa Int)×af))
def C0(x:aaz):ah (aaz⊕(((af×af×af)×((aa Int)×(aa Int)×af))⊕Empty)):=letI D:=x.1.2.2.2.1;bif D >= 3 then xL x.2.2.2.1 D λE=>aZ CZ (((),(),(),D,E,0,()),(x.2.1,x.2.2.1,x.2.2.2.1,())) λC=>xG (((),(),(),(W6 (C.1.2.2.2.1-1)),()),(C.2.1,C.2.2.1,C.2.2.2.1,()))else ay (((),(),()),(x.2.1,x.2.2.2.1,()))
def ame:KY 116 (bw f191):=⟨4,lB 4 Zp [(6,⟨[(3,.lf (.own 18)),(8,.lf (.own 66))],[(18,.sl .int 2),(66,.sl .int 2)],[]⟩)] C0,lq [] [amd]⟩
abbrev aaA:=((af×af×Int×af)×((aa Int)×(aa Int)×af))
def GI(x:aaA):ah (aaA⊕(((af×af)×((aa Int)×af))⊕Empty)):=letI C:=x.1.2.2.1;bif C<3 then xL x.2.2.1 C λD=>xL x.2.1 C λE=>xG (((),(),(W6 (C+1)),()),((x.2.1.set C.toNat D),x.2.2.1,()))else ay (((),()),(x.2.1,()))
def amf:KY 116 (bw f191):=⟨8,lB 8 ⟨[(3,.lf (.own 18)),(8,.lf (.own 66)),(13,tI)],[(18,.sl .int 2),(66,.sl .int 2)],[]⟩ [(10,⟨[(3,.lf (.own 18))],[(18,.sl .int 2)],[]⟩)] GI,lp []⟩
def yb(E:aa Int):ah ((aa Int)):=letI C:=(3:Int);(tQ E 8).bind λI=>bif (!I)then some ([]:aa Int)else if 0 <= C/\C <= 3/\C<1073741824 then bif aT ((List.replicate C.toNat (0:Int)).length+E.length)then aZ S7 (((),(),1,()),(((List.replicate C.toNat (0:Int))++E),([1,1]:aa Int),())) λD=>bif xZ D.2.1 then aZ C0 (((),(),(),(W6 (((xA D.2.1).length:Int)-1)),()),(D.2.1,D.2.2.1,(xA D.2.1),())) λF=>aZ GI (((),(),0,()),(F.2.1,F.2.2.1,())) λL=>some L.2.1 else none else none else none
def amg:=cA tN sg (bS yb) 116 [GD] [amc,ame,amf] func191
abbrev aaB:=((Int×af×Int×af)×((aa Int)×af))
def GJ(x:aaB):ah (aaB⊕(((af×af)×((aa Int)×af))⊕Empty)):=letI C:=x.1.2.2.1;letI D:=ay (((),()),(x.2.1,()));letI E:=([(bits .and .i64 (x.1.1.fdiv (2 ^ (min (IntKind.u64.wrap (W6 (4*C))).toNat IntKind.i64.bits))) 15)]:aa Int);bif C<8 then (Gl x.1.1).bind λF=>bif F then if (IntKind.u64.wrap (W6 (4*C)))<0 then none else bif aT (x.2.1.length+E.length)then xG ((x.1.1,(),(W6 (C+1)),()),((x.2.1++E),()))else none else D else D
def amh:KY 24 (bw f192):=⟨0,lB 0 ⟨[(0,tI),(3,.lf (.own 5)),(4,tI)],[(5,.sl .int 2)],[]⟩ [(2,SG)] GJ,lp [Z9]⟩
def L1(C:Int):ah ((aa Int)):=aZ GJ ((C,(),0,()),(([]:aa Int),())) λD=>some D.2.1
def ami:=cA lZ sg (bS L1) 24 [] [amh] func192
def C1(C:Int):ah ((aa Int)):=(L1 C).bind λD=>(yb D).bind λE=>some E
def aaC:=bK lZ sg (bS C1) 6 [amg,ami] func160
def C2(C:bT):ah (Bool):=letI D:=(cx C.times 1 999).bind λE=>some E;(cx C.line 0 1023).bind λF=>bif F then bif (C.code==1)then D else bif (C.code==2)then D else some false else some false
def aaD:=bK [(true,.ig)] cG (bS C2) 21 [eD] func194
abbrev aaE:=(((aa bT)×Int×Int×Int×af)×(af))
def GK(x:aaE):ah (aaE⊕(((Int×af)×(af))⊕(((af)×(af))⊕Empty))):=letI C:=x.1.2.2.2.1;letI D:=xG ((x.1.1,x.1.2.1,x.1.2.2.1,(W6 (C+1)),()),());bif C<(x.1.1.length:Int)then xI x.1.1 C λE=>bif (E.line==x.1.2.1)then xI x.1.1 C λF=>bif (F.code==x.1.2.2.1)then ay ((C,()),())else D else D else aY ((),())
def amj:KY 31 (bw f195):=⟨0,lB 0 ⟨[(0,.lf (.aF .ig 0)),(1,tI),(2,tI),(7,tI)],[],[]⟩ [(1,SR),(2,jk)] GK,lp []⟩
def GL(C:aa bT)(D E:Int):ah (Int):=bO GK ((C,D,E,0,()),()) (λF=>some F.1.1) λI=>some (-1)
def aaF:=cA ZI eZ (jK GL) 31 [] [amj] func195
abbrev aaG:=(((aa bT)×Int×af)×(af))
def GM(x:aaG):ah (aaG⊕(((Bool×af)×(af))⊕(((af)×(af))⊕Empty))):=letI C:=x.1.2.1;bif C<(x.1.1.length:Int)then xI x.1.1 C λD=>(C2 D).bind λE=>bif (!E)then ay ((false,()),())else xI x.1.1 C λF=>xI x.1.1 C λI=>(GL x.1.1 F.line I.code).bind λL=>bif (L != C)then ay ((false,()),())else xG ((x.1.1,(W6 (C+1)),()),())else aY ((),())
def amk:KY 35 (bw f193):=⟨0,lB 0 ⟨[(0,.lf (.aF .ig 0)),(3,tI)],[],[]⟩ [(1,oE),(2,jk)] GM,lp [aaD,aaF]⟩
def L2(C:aa bT):ah (Bool):=bif (C.length:Int) > 6 then some false else bO GM ((C,0,()),()) (λD=>some D.1.1) λE=>some true
def aml:=cA [(false,(.sl .ig))] cG (bS L2) 35 [] [amk] func193
def L3(F:aa bT)(L O:Int):ah ((aa bT)×Bool):=letI C:=xA F;letI E:=(C.length:Int);letI I:=([(⟨L,O,1⟩:bT)]:aa bT);letI T:=(C.take (E.toNat)).drop ((1:Int).toNat);bif xZ F then (L2 F).bind λZ=>bif (!Z)then some (C,false)else (C2 (⟨L,O,1⟩:bT)).bind λy2=>bif (!y2)then some (C,false)else (GL F L O).bind λD=>bif D >= 0 then xC C D (if h5:D.toNat<C.length then (let e6:=C[D.toNat]'h5;letI U:=W6 (e6.times+1);xC C D (if h8:D.toNat<C.length then (let Y:=C[D.toNat]'h8;some ((C.set D.toNat (⟨Y.line,Y.code,(if 999<U then 999 else U)⟩:bT)),true))else none))else none)else bif E >= 6 then if 0 <= (1:Int)/\1 <= E/\E <= E then bif xZ T then bif aT ((xA T).length+I.length)then some (((xA T)++I),true)else none else none else none else bif aT (C.length+I.length)then some ((C++I),true)else none else none
def amm:=bK ZI [(false,(.sl .ig),2),(false,.bool,0)] (jK L3) 55 [aml,aaD,aaF] func161
end Go.Proofs.YthmgjjfedieljaaGreatDoor
