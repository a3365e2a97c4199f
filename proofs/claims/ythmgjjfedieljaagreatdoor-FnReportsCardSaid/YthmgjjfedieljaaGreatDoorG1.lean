/-
  Functions of the program as plain functions of contents, and that the code computes them. Nothing here is a claim.
-/
import Derived.Test.YthmgjjfedieljaaGreatDoorVZ
import Derived.Test.YthmgjjfedieljaaGreatDoorRows
import Derived.Test.YthmgjjfedieljaaGreatDoorExt
import Derived.Test.YthmgjjfedieljaaGreatDoorExtB
namespace Go.Proofs.YthmgjjfedieljaaGreatDoor
set_option linter.defProp false
open Go.RowKit Go.Proofs.Tryz
set_option linter.unusedVariables false
set_option maxRecDepth 100000
abbrev KX:=KC Tryz.prog
abbrev KY:=BK Tryz.prog
abbrev nZ:aa Gp:=[(20000,.cX,4,[60033,60041,60046,60048,60049,60050,60051,60052,60054,60055,60058,60059,60060,60061,60062,60072,60073,60074])]
abbrev Zi:aa (Nat×Rm):=[(1,.blk [.int .i64,.int .i64,.int .i64,.int .i64,.int .i64,.int .i64,.int .i64,.int .i64,.int .i64,.int .i64,.int .i64,.int .i64,.int .i64,.int .i64,.int .i64,.int .i64,.int .i64,.int .i64,.int .i64,.int .i64,.int .i64,.int .i64,.bool,.int .i64,.int .i64,.int .i64,.int .i64,.int .i64,.int .i64,.int .i64,.int .i64,.int .i64,.int .i64,.own 1000000000107005,.int .i64,.int .i64,.int .i64,.int .i64,.int .i64,.int .i64,.int .i64,.own 1000000000107013,.int .i64,.int .i64,.bool,.int .i64,.own 1000000000111000,.int .i64,.own 1000000000115000,.own 1000000000115001,.own 1000000000119000,.own 1000000000119001,.own 1000000000119002,.int .i64,.own 1000000000123001,.own 1000000000127000,.int .i64,.bool,.aF .jR 0,.aF .int 0,.aF .Addr 0,.aF .eI 0,.aF .gx 0,.bool,.int .i64,.int .i64,.int .i64,.int .i64,.int .i64,.int .i64,.int .i64,.int .i64,.aF .ig 0,.aF .Event 0,.aF .sW 0]),(29,.sl .jR 4),(1000000000107005,.sl .int 2),(1000000000107013,.sl .int 2),(1000000000111000,.sl .me 2),(1000000000115000,.sl .int 2),(1000000000115001,.sl .int 2),(1000000000119000,.sl .Cell 4),(1000000000119001,.sl .int 4),(1000000000119002,.sl .int 4),(1000000000123001,.sl .int 2),(1000000000127000,.sl .int 2)]
abbrev cG:aa (Bool×TC×Nat):=[(false,.bool,0)]
abbrev Lp:aa Gp:=[(20000,.cX,4,[102000033,102000041,102000046,102000048,102000049,102000050,102000051,102000052,102000054,102000055,102000058,102000059,102000060,102000061,102000062,102000072,102000073,102000074])]
abbrev Lq:aa Nat:=[90133,90141,90146,90148,90149,90150,90151,90152,90154,90155,90158,90159,90160,90161,90162,90172,90173,90174]
abbrev Zj:aa Gp:=[(6,.cX,4,Lq),(8,.cX,4,[1000000000115033,1000000000115041,1000000000115046,1000000000115048,1000000000115049,1000000000115050,1000000000115051,1000000000115052,1000000000115054,1000000000115055,1000000000115058,1000000000115059,1000000000115060,1000000000115061,1000000000115062,1000000000115072,1000000000115073,1000000000115074])]
abbrev gK:aa Lm:=[.int .i64,.int .i64,.int .i64,.int .i64]
abbrev Lr:aa Lm:=[.int .i64,.own 90101]
abbrev Zk:aa (Nat×Rm):=[(2,.blk gK),(4,.blk Lr),(6,.blk [.int .i64,.own 90201]),(90101,.sl .int 2),(90201,.sl .int 2)]
abbrev eZ:aa (Bool×TC×Nat):=[(false,.int,0)]
abbrev CL:aa (Nat×Rm):=[(20000,.blk [.own 60000,.own 60001,.int .i64]),(60000,.sl .int 2),(60001,.sl .int 2)]
abbrev Zl:aa Gp:=[(4,.cX,4,Lq),(6,.cX,4,[1000000000137005,1000000000137013,1000000000119000,1000000000122000,1000000000122001,1000000000125000,1000000000125001,1000000000125002,1000000000146001,1000000000154000,90258,90259,90260,90261,90262,90272,90273,90274])]
abbrev kU:cc:=⟨[(4,tB)],[],[]⟩
abbrev oE:cc:=⟨[(2,tB)],[],[]⟩
abbrev SD:aa Lm:=[.own 90100,.own 90101,.own 90102]
abbrev Zm:aa (Nat×Rm):=[(1,.blk gK),(2,.blk SD),(3,.blk [.own 90200,.own 90201,.own 90202]),(90100,.sl .Cell 4),(90101,.sl .int 2),(90102,.sl .int 2),(90200,.sl .Cell 4),(90201,.sl .int 2),(90202,.sl .int 2)]
abbrev ak5:aa Lm:=[.own 60000,.own 60001,.own 60002]
abbrev sg:aa (Bool×TC×Nat):=[(false,(.sl .int),2)]
abbrev Zn:aa (Nat×Rm):=[(20000,.blk ak5),(5,.blk gK),(60000,.sl .Cell 4),(60001,.sl .int 4),(60002,.sl .int 4)]
abbrev Zo:aa (Nat×Rm):=[(18,.sl .int 2),(99004,.sl .int 2),(66,.sl .int 2)]
abbrev Zp:cc:=⟨[(3,.lf (.own 18)),(4,.lf (.own 99004)),(8,.lf (.own 66)),(9,tI)],Zo,[]⟩
abbrev lZ:aa (Bool×TC):=[(false,.int)]
abbrev Zq:cc:=⟨[(4,.aI 4 0),(6,.aI 6 0)],[(4,.blk Lr),(6,.blk [.int .i64,.own 90201]),(90101,.sl .int 2),(90201,.sl .int 2)],[]⟩
abbrev Ls:aa (Bool×TC):=[(true,.gj),(true,.nD),(false,.int),(false,.int)]
abbrev tN:aa (Bool×TC):=[(false,(.sl .int))]
abbrev F3:aa Lm:=[.aF .int 0,.int .i64,.bool]
abbrev SE:aa (Nat×Rm):=[(1,.blk [.aF .int 0,.aF .int 0,.int .i64])]
abbrev F4:aa (Bool×TC):=[(false,(.sl .int)),(false,.int)]
abbrev CM:cc:=⟨[(4,tI)],[],[]⟩
abbrev CN:cc:=⟨[(5,tI)],[],[]⟩
abbrev Lt:aa Lm:=[.aF .Cell 0,.aF .int 0,.aF .int 0]
abbrev Zr:cc:=⟨[(0,tI),(1,.lf (.aF .eI 0)),(9,.lf (.aF .eI 0)),(10,tI),(11,tI)],[],[]⟩
abbrev Zs:aa Lm:=[.int .i64,.int .i64,.int .i64,.int .i64,.int .i64,.aF .int 0,.int .i64,.int .i64]
abbrev Zt:cc:=⟨[(0,.lf (.aF .int 0)),(3,.lf (.own 12)),(4,tI)],[(12,.sl .int 2)],[]⟩
abbrev jk:cc:=⟨[],[],[]⟩
abbrev F5:aa Lm:=[.int .i64,.int .i64,.int .i64,.bool,.int .i64,.int .i64]
abbrev SF:cc:=⟨[(1,tI),(2,.aI 2 0),(4,.aI 4 0),(6,.aI 6 0),(7,tI)],Zk,[]⟩
abbrev SG:cc:=⟨[(3,.lf (.own 5))],[(5,.sl .int 2)],[]⟩
abbrev Zu:cc:=⟨[(0,.lf (.aF .ig 0)),(7,.lf (.aF .ig 0)),(8,tI),(9,tI)],[],[]⟩
abbrev vE:aa (Bool×TC):=[(true,.gj)]
abbrev Zv:aa (Nat×Rm):=[(2,.blk gK),(1000000000116000,.sl .Addr 2),(19,.sl .bool 2),(20,.sl .bool 2)]
abbrev SH:aa Lm:=[.int .i64,.own 1000000000114001]
abbrev Aq:aa Lm:=[.aF .int 0,.aF .int 0]
abbrev Zw:cc:=⟨[(3,.aI 3 0)],[(3,.blk Aq)],[]⟩
abbrev xW:aa PK:=[.p .qh 0 0]
abbrev Lu:aa (Bool×TC):=[(true,.gj),(false,.int)]
abbrev Lv:aa (Bool×TC):=[(false,.int),(false,.int)]
abbrev Zx:aa (Nat×Rm):=[(11,.sl .Command 2),(1000000000113000,.sl .Addr 2),(14,.sl .bool 2)]
abbrev SI:aa (Bool×TC):=[(false,(.sl .eI)),(false,.int)]
abbrev Zy:cc:=⟨[(0,tI),(1,tI),(5,tI),(6,tI)],[],[]⟩
abbrev Zz:cc:=⟨[(3,.lf (.own 6))],[(6,.sl .int 2)],[]⟩
abbrev ZA:cc:=⟨[(0,.lf (.aF .int 0)),(1,tI)],[],[]⟩
abbrev SJ:aa (Bool×TC×Nat):=[(true,.qg,2),(false,.bool,0)]
abbrev Lw:aa Lm:=[.int .i64,.aF .int 0]
abbrev SK:cc:=⟨[(2,.aI 2 0),(3,.aI 3 0),(7,tI),(8,tI)],[(2,.blk gK),(3,.blk Lw)],[]⟩
abbrev xX:aa Lm:=[.aF .me 0,.int .i64]
abbrev F6:aa Lm:=[.int .i64,.int .i64,.int .i64]
abbrev ZB:cc:=⟨[(0,.lf (.aF .eI 0)),(1,tI),(5,tI)],[],[]⟩
abbrev ZC:cc:=⟨[(0,.lf (.aF .int 0)),(1,tI),(5,tI)],[],[]⟩
abbrev SL:aa (Nat×Rm):=[(1,.st .cX),(3,.blk gK)]
abbrev SM:aa PK:=[.p .qh 0 0,.v false .int]
abbrev ZD:cc:=⟨[(1,.aI 1 0)],[(1,.st .kD)],[]⟩
abbrev ZE:cc:=⟨[(1,.aI 1 0)],[(1,.blk F3)],[]⟩
abbrev ZF:aa (Nat×Tm):=[(1,.aI 1 0),(2,.aI 2 0),(3,.aI 3 0),(4,tI)]
abbrev SN:aa (Bool×TC):=[(true,.Config),(true,.kF)]
abbrev SO:aa (Bool×TC):=[(true,.gj),(true,.Addr)]
abbrev SP:aa (Bool×TC):=[(true,.gj),(true,.nD)]
abbrev ZG:cc:=⟨[(1,.aI 1 0),(3,tI)],SE,[]⟩
abbrev ZH:cc:=⟨[(0,.lf (.aF .gx 0))],[],[]⟩
abbrev ZI:aa (Bool×TC):=[(false,(.sl .ig)),(false,.int),(false,.int)]
abbrev ZJ:aa PK:=[.p .qh 0 0,.v true .Config,.v false .int]
abbrev F7:aa (Bool×TC):=[(true,.kD)]
abbrev Lx:aa (Nat×Rm):=[(7,.sl .Command 2)]
abbrev ZK:aa Lm:=[.own 20001,.int .i64,.int .i64]
abbrev SQ:cc:=⟨[],[],nZ⟩
abbrev SR:cc:=⟨[(6,tI)],[],[]⟩
abbrev ZL:aa Lm:=[.int .i64,.own 1000000000138001]
abbrev ZM:aa (Nat×Tm):=[(1,.aI 1 0),(3,.lf (.own 5)),(4,tI)]
def SS(C:aa Int):ah (Bool):=some ((C.length:Int) > 1048576)
def ak6:=bK [(false,(.sl .u8))] cG (bS SS) 6 [] func4
def xY(C:bA):ah ((Int)×(bA×af)):=letI D:=W6 ((W6 (C.h*6364136223846793005))+1442695040888963407);letI E:=bits .and .i64 (bits .xor .i64 (D.fdiv (2 ^ (min (33:Int).toNat IntKind.i64.bits))) (D.fdiv (2 ^ (min (45:Int).toNat IntKind.i64.bits)))) 255;bif C.i<(C.b.length:Int)then xI C.b C.i λF=>some ((bits .and .i64 (W6 (E+(W6 F))) 255),((⟨C.b,(W6 (C.i+1)),D⟩:bA),()))else some (E,((⟨C.b,C.i,D⟩:bA),()))
def ak7:=kj xW eZ (bS xY) 58 [] func48
def eC(C:bA)(D:Int):ah ((Int)×(bA×af)):=bif D <= 0 then some (0,(C,()))else bif D <= 256 then (xY C).bind λE=>if D=0 then none else some ((E.1.tmod D),((⟨C.b,E.2.1.i,E.2.1.h⟩:bA),()))else (xY C).bind λF=>(xY (⟨C.b,F.2.1.i,F.2.1.h⟩:bA)).bind λI=>(xY (⟨C.b,I.2.1.i,I.2.1.h⟩:bA)).bind λL=>(xY (⟨C.b,L.2.1.i,L.2.1.h⟩:bA)).bind λO=>if D=0 then none else some (((W6 ((W6 ((W6 ((W6 (F.1*16777216))+(W6 (I.1*65536))))+(W6 (L.1*256))))+O.1)).tmod D),((⟨C.b,O.2.1.i,O.2.1.h⟩:bA),()))
def qM:=kj SM eZ (cz eC) 37 [ak7] func24
def x8(D:bA)(E:aa Int):ah ((Int)×(bA×af)):=(eC D (E.length:Int)).bind λC=>xI E C.1 λF=>some (F,((⟨D.b,C.2.1.i,C.2.1.h⟩:bA),()))
def SU:=kj [.p .qh 0 0,.v false (.sl .int)] eZ (cz x8) 12 [qM] func25
def As(C:bA):ah ((Int)×(bA×af)):=(eC C 4).bind λD=>letI E:=(⟨C.b,D.2.1.i,D.2.1.h⟩:bA);bif (D.1==0)then (x8 E ([0,1,4294967295,2147483648,65536,305419896]:aa Int)).bind λF=>some (F.1,((⟨C.b,F.2.1.i,F.2.1.h⟩:bA),()))else bif (D.1==1)then (eC E 200).bind λI=>some (I.1,((⟨C.b,I.2.1.i,I.2.1.h⟩:bA),()))else (eC E 65536).bind λL=>(eC (⟨C.b,L.2.1.i,L.2.1.h⟩:bA) 65536).bind λO=>some ((W6 ((W6 (L.1*65536))+O.1)),((⟨C.b,O.2.1.i,O.2.1.h⟩:bA),()))
def ZN:=kj xW eZ (bS As) 20 [qM,SU] func13
abbrev ZO:=((af×Int×Int×af)×((aa Int)×af))
def F8(x:ZO):ah (ZO⊕(((af×Int×af)×((aa Int)×af))⊕Empty)):=letI C:=x.1.2.2.1;letI D:=ay (((),x.1.2.1,()),(x.2.1,()));bif C<(x.2.1.length:Int)then bif C<4000 then xI x.2.1 C λE=>xG (((),(bits .and .i64 (W6 ((W6 ((W6 (x.1.2.1*131))+(W6 E)))+7)) 1073741823),(W6 (C+1)),()),(x.2.1,()))else D else D
def ZP:KY 32 (bw f14):=⟨0,lB 0 ⟨[(0,.lf (.own 20000)),(3,tI),(4,tI)],[(20000,.sl .u8 0)],[]⟩ [(2,⟨[(0,.lf (.own 20000)),(3,tI)],[(20000,.sl .u8 0)],[]⟩)] F8,lp []⟩
def At(C:aa Int):ah Int:=aZ F8 (((),(W6 (97301+(C.length:Int))),0,()),(C,())) λD=>some D.1.2.1
def ZQ:enters Tryz.prog 14/\Kp Tryz.prog 14 At:=akz (N:=32) (fn:=f14) (code:=bw f14) (Φ:=(nY [])) (Λ:=(kT [(0,ZP.b)])) func14 (by kernel_rfl) (by kernel_rfl) (by kernel_rfl) (by kernel_rfl) (by kernel_rfl) (tK _ trivial) (Sx (by kernel_rfl) _ ⟨⟨_,by kernel_rfl,ZP.ok⟩,trivial⟩) (λl=>by kernel_rfl)
def Ly(C:aa Int):ah (Int):=(At C).bind λD=>(As (⟨C,0,D⟩:bA)).bind λE=>some E.1
def ak8:=bK [(false,(.sl .u8))] eZ (bS Ly) 6 [ZN,⟨14,.n At,ZQ⟩] func5
def ck(C D E:Int):ah (Bool):=bif C >= D then some (C <= E)else some false
def gd:=bK [(false,.int),(false,.int),(false,.int)] cG (jK ck) 15 [] func22
def tO(C:Int):ah (Bool):=(ck C 0 4294967295).bind λD=>some D
def ZR:=bK lZ cG (bS tO) 5 [gd] func15
abbrev ZS:=((Int×ByteArray×Int×af)×(af))
def SV(x:ZS):ah (ZS⊕(((ByteArray×af)×(af))⊕Empty)):=letI C:=x.1.2.2.1;letI F:=ByteArray.mk #[48,49,50,51,52,53,54,55,56,57,97,98,99,100,101,102];letI D:=bits .and .i64 (x.1.1.fdiv (2 ^ (min C.toNat IntKind.i64.bits))) 15;letI E:=W6 (D+1);letI I:=F.extract D.toNat E.toNat;bif C >= 0 then if C<0 then none else if 0 <= D/\D <= E/\E <= (F.size:Int)then bif aT (x.1.2.1.size+I.size)then xG ((x.1.1,(x.1.2.1++I),(W6 (C-4)),()),())else none else none else ay ((x.1.2.1,()),())
def ak9:KY 24 (bw f6):=⟨0,lB 0 ⟨[(0,tI),(3,.lf (.str)),(4,tI)],[],[]⟩ [(2,⟨[(3,.lf (.str))],[],[]⟩)] SV,lp []⟩
def F9(C:Int):ah (ByteArray):=(tO C).bind λD=>bif (!D)then some (ByteArray.mk #[])else aZ SV ((C,(ByteArray.mk #[]),28,()),()) λE=>some E.1.1
def ala:=cA lZ [(false,.str,0)] (bS F9) 24 [ZR] [ak9] func6
abbrev ZT:=((ByteArray×Int×Int×af)×(af))
def Ga(x:ZT):ah (ZT⊕(((Int×Bool×af)×(af))⊕(((Int×af)×(af))⊕Empty))):=letI C:=x.1.2.2.1;bif C<(x.1.1.size:Int)then if E:0 <= C/\C.toNat<x.1.1.size then (SC (ByteArray.mk #[48,49,50,51,52,53,54,55,56,57,97,98,99,100,101,102]) ((x.1.1[C.toNat]'E.2).toNat:Int)).bind λD=>bif D<0 then ay ((0,false,()),())else xG ((x.1.1,(bits .or .i64 (W6 (x.1.2.1*2 ^ (min (4:Int).toNat IntKind.i64.bits))) D),(W6 (C+1)),()),())else none else aY ((x.1.2.1,()),())
def alb:KY 27 (bw f7):=⟨0,lB 0 ⟨[(0,.lf (.str)),(4,tI),(5,tI)],[],[]⟩ [(1,⟨[(2,tI),(3,tB)],[],[]⟩),(2,CM)] Ga,lp [⟨16,.p Zh,ak4⟩]⟩
def Lz(C:ByteArray):ah (Int×Bool):=bif ((C.size:Int) != 8)then some (0,false)else bO Ga ((C,0,0,()),()) (λD=>some (D.1.1,D.1.2.1)) λE=>some (E.1.1,true)
def alc:=cA [(false,.str)] [(false,.int,0),(false,.bool,0)] (bS Lz) 27 [] [alb] func7
def LA(C:bA):ah ((aL)×(bA×af)):=(eC C 2).bind λD=>(eC (⟨C.b,D.2.1.i,D.2.1.h⟩:bA) 3).bind λE=>(eC (⟨C.b,E.2.1.i,E.2.1.h⟩:bA) 2).bind λF=>some ((⟨1,(W6 (1+D.1)),(W6 (2+E.1)),(W6 (1+F.1))⟩:aL),((⟨C.b,F.2.1.i,F.2.1.h⟩:bA),()))
def ald:=kj xW [(true,.gj,0)] (bS LA) 13 [qM] func50
def ZU  : ah (cV):=some (⟨3,3,7,2,3,10,2,3,3,6,4,5,4,12,3,4,16⟩:cV)
def ale:=bK [] [(true,.kD,0)] (Zd ZU) 2 [] func51
def Au(D:bA)(E:Int):ah ((Bool)×(bA×af)):=(eC D E).bind λC=>some ((C.1==0),((⟨D.b,C.2.1.i,C.2.1.h⟩:bA),()))
def LB:=kj SM cG (cz Au) 9 [qM] func53
def LC(C:bA):ah ((lK)×(bA×af)):=(eC C 3).bind λD=>(Au (⟨C.b,D.2.1.i,D.2.1.h⟩:bA) 2).bind λE=>some ((⟨D.1,E.1⟩:lK),((⟨C.b,E.2.1.i,E.2.1.h⟩:bA),()))
def alf:=kj xW [(true,.rq,0)] (bS LC) 8 [qM,LB] func52
def LD(D:bA):ah ((eH)×(bA×af)):=(LA D).bind λE=>(ZU).bind λC=>(LC (⟨D.b,E.2.1.i,E.2.1.h⟩:bA)).bind λF=>(eC (⟨D.b,F.2.1.i,F.2.1.h⟩:bA) 60).bind λU=>letI I:=W6 (200+U.1);(eC (⟨D.b,U.2.1.i,U.2.1.h⟩:bA) 3).bind λL=>(eC (⟨D.b,L.2.1.i,L.2.1.h⟩:bA) 2).bind λO=>(eC (⟨D.b,O.2.1.i,O.2.1.h⟩:bA) 3).bind λT=>(Au (⟨D.b,T.2.1.i,T.2.1.h⟩:bA) 3).bind λY=>letI u1:=(⟨D.b,Y.2.1.i,Y.2.1.h⟩:bA);bif Y.1 then (eC u1 5).bind λZ=>(eC (⟨D.b,Z.2.1.i,Z.2.1.h⟩:bA) 4).bind λpX=>some ((⟨⟨(W6 (1+O.1)),E.1.aB,(W6 (4+L.1)),E.1.aK⟩,⟨C.jv,C.rp,C.fZ,C.ni,C.jw,C.mb,C.nj,C.nq,(W6 (1+pX.1)),(W6 (4+Z.1)),C.nt,C.nu,C.qc,C.ny,C.og,C.xp,C.xs⟩,F.1,T.1,I,16,⟨(W6 (6*I)),40⟩⟩:eH),((⟨D.b,pX.2.1.i,pX.2.1.h⟩:bA),()))else some ((⟨⟨(W6 (1+O.1)),E.1.aB,(W6 (4+L.1)),E.1.aK⟩,C,F.1,T.1,I,16,⟨(W6 (6*I)),40⟩⟩:eH),(u1,()))
def alg:=kj xW [(true,.Config,0)] (bS LD) 44 [qM,ald,ale,alf,LB] func27
def cx(C D E:Int):ah (Bool):=bif C >= D then some (C <= E)else some false
def eD:=bK [(false,.int),(false,.int),(false,.int)] cG (jK cx) 15 [] func91
def vF(C:aL):ah (Bool):=(cx C.bX 1 2).bind λD=>bif D then (cx C.aB 1 4).bind λE=>bif E then (cx C.rows 2 16).bind λF=>bif F then (cx C.aK 1 8).bind λI=>some I else some false else some false else some false
def CO:=bK vE cG (bS vF) 21 [eD] func124
def kV(C:aL):ah (Int):=(vF C).bind λD=>bif (!D)then some 0 else some (W6 (C.bX*C.aB))
def ko:=bK vE eZ (bS kV) 11 [CO] func83
abbrev ZV:=((Int×af×af×af×Int×af)×((Int×Int×Int×Int×af)×(Int×af×af)×(Int×af×af)×(aa Int)×(aa Int)×af))
def Gb(x:ZV):ah (ZV⊕(((af×af×af)×((Int×af×af)×(Int×af×af)×(aa Int)×(aa Int)×af))⊕Empty)):=letI C:=x.2.2.2;letI D:=x.1.2.2.2.2.1;letI E:=W6 (x.2.1.2.2.1-x.1.1);letI F:=([(D.tmod E)]:aa Int);(kV (⟨x.2.1.1,x.2.1.2.1,x.2.1.2.2.1,x.2.1.2.2.2.1⟩:aL)).bind λI=>bif D<(W6 (I*E))then if E=0 then none else bif aT (C.2.2.1.length+F.length)then xG ((x.1.1,(),(),(),(W6 (D+1)),()),(x.2.1,x.2.2.1,C.1,C.2.1,(C.2.2.1++F),()))else none else ay (((),(),()),(x.2.2.1,C.1,C.2.1,C.2.2.1,()))
def alh:KY 49 (bw f85):=⟨0,lB 0 SF [(2,Zq)] Gb,lp [ko]⟩
def CP(C:aL)(D:Int):ah (dc×Bool):=letI E:=some ((⟨0,[]⟩:dc),false);(vF C).bind λI=>bif (!I)then E else (cx D 0 2).bind λL=>bif (!L)then E else bif (W6 (C.rows-D))<2 then E else aZ Gb ((D,(),(),(),0,()),((C.bX,C.aB,C.rows,C.aK,()),(0,(),()),(D,(),()),([]:aa Int),([]:aa Int),())) λF=>some ((⟨F.2.2.1.1,F.2.2.2.2.1⟩:dc),true)
def SW:=cA Lu [(true,.nD,2),(false,.bool,0)] (cz CP) 49 [eD,CO] [alh] func85
def SX(C:cV):ah ((aa Int)):=some ([C.jv,C.rp,C.fZ,C.ni,C.jw,C.mb,C.nj,C.nq,C.iJ,C.wr,C.nt,C.nu,C.qc,C.ny,C.og,C.xp,C.xs]:aa Int)
def ali:=bK F7 sg (bS SX) 38 [] func185
abbrev ZW:=((af×af×Int×af)×(cV×(aa Int)×af))
def CQ(x:ZW):ah (ZW⊕(((Bool×af)×(af))⊕(((af×af)×(cV×af))⊕Empty))):=bif x.1.2.2.1<(x.2.2.1.length:Int)then xL x.2.2.1 x.1.2.2.1 λC=>(cx C 1 64).bind λD=>bif (!D)then ay ((false,()),())else xG (((),(),(W6 (x.1.2.2.1+1)),()),(x.2.1,x.2.2.1,()))else aY (((),()),(x.2.1,()))
def alj:KY 45 (bw f150):=⟨0,lB 0 ⟨[(1,.aI 1 0),(3,.lf (.own 1000000000106000)),(4,tI)],[(1,.st .kD),(1000000000106000,.sl .int 2)],[]⟩ [(1,oE),(2,ZD)] CQ,lp [eD]⟩
def Av(D:cV):ah (Bool):=(SX D).bind λE=>bO CQ (((),(),0,()),(D,E,())) (λF=>some F.1.1) λI=>letI C:=I.2.1;bif C.jv <= C.fZ then bif C.ni <= C.jw then bif C.nj <= C.nq then some (C.nt <= C.nu)else some false else some false else some false
def LF:=cA F7 cG (bS Av) 45 [ali] [alj] func150
def CR(C:lK):ah (Bool):=(cx C.order 0 2).bind λD=>some D
def ZX:=bK [(true,.rq)] cG (bS CR) 6 [eD] func151
def Gc(C:cV):ah (Int):=(Av C).bind λD=>bif (!D)then some 0 else some (W6 (2*(W6 ((W6 ((W6 ((W6 ((W6 ((W6 ((W6 ((W6 ((W6 (C.og+C.xp))+C.fZ))+C.wr))+C.iJ))+C.rp))+C.ny))+C.jv))+(W6 (8*C.jw))))+16))))
def alk:=bK F7 eZ (bS Gc) 35 [LF] func152
def LG(C:eH):ah (Bool):=(CP C.av C.bC).bind λD=>bif (!D.2)then some false else (Av C.bN).bind λE=>bif (!E)then some false else (CR C.mapping).bind λF=>bif (!F)then some false else (Gc C.bN).bind λI=>(cx C.interval I 10000).bind λL=>bif (!L)then some false else (cx C.ic 1 16).bind λO=>bif O then (cx C.ew.bD (W6 (6*C.interval)) 100000).bind λT=>bif T then (cx C.ew.bz 0 100000).bind λU=>some U else some false else some false
def alm:=bK [(true,.Config)] cG (bS LG) 54 [SW,eD,LF,ZX,alk] func121
abbrev ZY:=(((aa ct)×Int×af)×(af))
def Gd(x:ZY):ah (ZY⊕(((Bool×af)×(af))⊕((((aa ct)×af)×(af))⊕Empty))):=letI C:=x.1.2.1;bif C<(x.1.1.length:Int)then xI x.1.1 C λD=>(cx D.weight 1 9).bind λE=>bif (!E)then ay ((false,()),())else xI x.1.1 C λF=>xI x.1.1 C λI=>(cx F.eT 0 I.weight).bind λL=>bif (!L)then ay ((false,()),())else xG ((x.1.1,(W6 (C+1)),()),())else aY ((x.1.1,()),())
def aln:KY 34 (bw f127):=⟨0,lB 0 ⟨[(0,.lf (.aF .gx 0)),(3,tI)],[],[]⟩ [(1,oE),(2,ZH)] Gd,lp [eD]⟩
def Ge(C:aa ct):ah (Bool):=bO Gd ((C,0,()),()) (λD=>some D.1.1) λE=>(cx (E.1.1.length:Int) 1 4).bind λF=>some F
def ZZ:=cA [(false,(.sl .gx))] cG (bS Ge) 34 [eD] [aln] func127
abbrev Z0:=(((aa Int)×af×Int×af)×((aa ct)×af))
def Gf(x:Z0):ah (Z0⊕(((af×af)×((aa ct)×af))⊕Empty)):=letI D:=ay (((),()),(x.2.1,()));letI C:=x.1.2.2.1;bif C<(x.1.1.length:Int)then bif C <= 4 then xI x.1.1 C λF=>xI x.1.1 C λI=>letI E:=([(⟨F,I⟩:ct)]:aa ct);bif aT (x.2.1.length+E.length)then xG ((x.1.1,(),(W6 (C+1)),()),((x.2.1++E),()))else none else D else D
def alo:KY 34 (bw f88):=⟨0,lB 0 ⟨[(0,.lf (.aF .int 0)),(4,.lf (.own 6)),(5,tI)],[(6,.sl .gx 2)],[]⟩ [(2,⟨[(4,.lf (.own 6))],[(6,.sl .gx 2)],[]⟩)] Gf,lp []⟩
def x9(D:aa Int):ah ((aa ct)×Bool):=aZ Gf ((D,(),0,()),(([]:aa ct),())) λC=>(Ge C.2.1).bind λE=>bif (!E)then some (([]:aa ct),false)else some (C.2.1,true)
def SY:=cA tN [(false,(.sl .gx),2),(false,.bool,0)] (bS x9) 34 [ZZ] [alo] func88
def CS(C:iA):ah (Bool):=bif C.low >= 0 then bif C.high <= 12 then some (C.low<C.high)else some false else some false
def SZ:=bK [(true,.qf)] cG (bS CS) 18 [] func153
def Gg(C:qd):ah (Bool):=(cx C.down 1 10000).bind λD=>bif D then bif C.sleep > C.down then some (C.sleep <= 20000)else some false else some false
def Z1:=bK [(true,.sU)] cG (bS Gg) 18 [eD] func154
def CT(C:dy):ah (Bool):=(x9 C.weights).bind λD=>(cx C.eV 0 1).bind λE=>bif E then (cx C.cap 0 100000).bind λF=>bif F then (cx C.eK 3 1000).bind λI=>bif I then (CS (⟨false,C.low,C.high⟩:iA)).bind λL=>bif L then bif D.2 then bif ((C.weights.length:Int)==4)then (Gg C.dQ).bind λO=>some O else some false else some false else some false else some false else some false else some false
def S0:=bK [(true,.kF)] cG (bS CT) 46 [SY,eD,SZ,Z1] func122
def LH(C:Int):ah (Int):=(cx C 3 1000).bind λD=>bif (!D)then some 0 else some (W6 ((W6 (2*C))+2))
def alp:=bK lZ eZ (bS LH) 9 [eD] func123
def Aw(C:eH)(D:dy):ah (Bool):=letI E:=W6 (C.bN.fZ+C.bN.rp);(LG C).bind λF=>bif (!F)then some false else (CT D).bind λI=>bif (!I)then some false else (LH D.eK).bind λL=>bif (W6 (L+2)) <= C.ew.bz then if E=0 then none else some ((W6 ((W6 (C.ic+1))*D.eK)) > (W6 ((W6 ((W6 (5*C.interval)).tdiv E))+2)))else some false
def Z2:=bK SN cG (cz Aw) 42 [alm,S0,alp] func79
def LI(D:aL):ah (cB):=(kV D).bind λC=>if 0 <= C/\C <= C/\C<1073741824 then some (⟨(List.replicate C.toNat (⟨false,0⟩:ep)),0⟩:cB)else none
def alq:=bK vE [(true,.jQ,2)] (bS LI) 7 [ko] func80
abbrev Z3:=((Int×af×Int×af)×((aa Int)×af))
def Gh(x:Z3):ah (Z3⊕(((af×af)×((aa Int)×af))⊕Empty)):=letI C:=x.1.2.2.1;bif C<x.1.1 then xL x.2.1 C λD=>xG ((x.1.1,(),(W6 (C+1)),()),((x.2.1.set C.toNat (-1:Int)),()))else ay (((),()),(x.2.1,()))
def alr:KY 16 (bw f125):=⟨0,lB 0 ⟨[(0,tI),(3,.lf (.own 6)),(4,tI)],[(6,.sl .int 2)],[]⟩ [(2,Zz)] Gh,lp []⟩
def Gi(C:Int):ah ((aa Int)):=if 0 <= C/\C <= C/\C<1073741824 then aZ Gh ((C,(),0,()),((List.replicate C.toNat (0:Int)),())) λD=>some D.2.1 else none
def Z4:=cA lZ sg (bS Gi) 16 [] [alr] func125
def LJ(C:aL):ah (dJ):=(vF C).bind λD=>bif (!D)then some (⟨[],[]⟩:dJ)else (kV C).bind λE=>(Gi (W6 (9*(W6 (E+1))))).bind λF=>some (⟨F,[]⟩:dJ)
def als:=bK vE [(true,.nB,2)] (bS LJ) 13 [ko,CO,Z4] func81
def sj(C:aL):ah (Int):=(vF C).bind λD=>bif (!D)then some 0 else (kV C).bind λE=>some (W6 ((W6 (E*C.rows))*C.aK))
def Gj:=bK vE eZ (bS sj) 14 [ko,CO] func107
def alu:cc:=⟨ZF,Zm,[]⟩
def alv:aa (Nat×cc):=[(2,⟨[(1,.aI 1 0),(2,.aI 2 0),(3,.aI 3 0)],Zm,[]⟩)]
abbrev Z5:=((af×af×af×Int×af)×((Int×Int×Int×Int×af)×(af×af×af×af)×(af×af×af×af)×(aa bV)×(aa Int)×(aa Int)×(aa bV)×(aa Int)×(aa Int)×af))
def Gk(x:Z5):ah (Z5⊕(((af×af×af×af)×((Int×Int×Int×Int×af)×(af×af×af×af)×(af×af×af×af)×(aa bV)×(aa Int)×(aa Int)×(aa bV)×(aa Int)×(aa Int)×af))⊕Empty)):=letI F:=(11:Int);letI I:=(⟨(List.replicate F.toNat (0:Int)),false⟩:bV);letI D:=((),(),(),());letI E:=x.2.2.2.2.2;letI C:=E.2.2;(sj (⟨x.2.1.1,x.2.1.2.1,x.2.1.2.2.1,x.2.1.2.2.2.1⟩:aL)).bind λL=>bif x.1.2.2.2.1<L then if 0 <= F/\F <= 11/\F<1073741824 then bif aT (C.1.length+[I].length)then xG (((),(),(),(W6 (x.1.2.2.2.1+1)),()),(x.2.1,D,D,x.2.2.2.2.1,E.1,E.2.1,(C.1++[I]),C.2.1,C.2.2.1,()))else none else none else ay (D,(x.2.1,D,D,x.2.2.2.2.1,E.1,E.2.1,C.1,C.2.1,C.2.2.1,()))
def alw:KY 39 (bw f82):=⟨0,lB 0 alu alv Gk,lp [Gj]⟩
def LK(E:aL):ah (dh):=letI C:=(0:Int);aZ Gk (((),(),(),0,()),((E.bX,E.aB,E.rows,E.aK,()),((),(),(),()),((),(),(),()),([]:aa bV),([]:aa Int),([]:aa Int),([]:aa bV),([]:aa Int),([]:aa Int),())) λF=>letI I:=F.2.1.2;letI L:=(⟨F.2.1.1,I.1,I.2.1,I.2.2.1⟩:aL);letI O:=if 0 <= C/\C <= 0/\C<1073741824 then if 0 <= C/\C <= 0/\C<1073741824 then some (⟨F.2.2.2.2.2.2.2.1,(List.replicate C.toNat C),(List.replicate C.toNat C)⟩:dh)else none else none;(kV L).bind λT=>letI D:=W6 (T*I.2.1);bif D<0 then O else (vF L).bind λU=>bif (!U)then O else if 0 <= D/\D <= D/\D<1073741824 then if 0 <= D/\D <= D/\D<1073741824 then some (⟨F.2.2.2.2.2.2.2.1,(List.replicate D.toNat C),(List.replicate D.toNat C)⟩:dh)else none else none
def alx:=cA vE [(true,.Array,4)] (bS LK) 39 [ko,CO] [alw] func82
def tP(C:dy):ah (dy):=bif xZ C.weights then some (⟨C.eV,C.cap,C.eK,C.low,C.high,(xA C.weights),C.dQ⟩:dy)else none
def LL:=bK [(true,.kF)] [(true,.kF,2)] (bS tP) 9 [] func126
def LM(C:dy):ah (gH×Bool):=(CT C).bind λD=>bif (!D)then some ((⟨⟨0,0,0,0,0,[],⟨0,0⟩⟩,⟨0,0,0,0,0,[],⟨0,0⟩⟩,false⟩:gH),false)else (tP C).bind λE=>(tP C).bind λF=>some ((⟨E,F,false⟩:gH),true)
def aly:=bK [(true,.kF)] SJ (bS LM) 13 [S0,LL] func84
def LN(C D:Int):ah (cW×Bool):=letI E:=some ((⟨[],0,false⟩:cW),false);(cx C 1 8).bind λF=>bif (!F)then E else (cx D 2 10000).bind λI=>bif (!I)then E else if 0 <= C/\C <= C/\C<1073741824 then some ((⟨(List.replicate C.toNat (0:Int)),D,false⟩:cW),true)else none
def alz:=bK Lv [(true,.kE,2),(false,.bool,0)] (cz LN) 19 [eD] func86
end Go.Proofs.YthmgjjfedieljaaGreatDoor
