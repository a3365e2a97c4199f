/-
  Functions of the program as plain functions of contents, and that the code computes them. Nothing here is a claim.
-/
import Derived.Test.YtgjfmljpdnnihaaGreatVZ
import Derived.Test.YtgjfmljpdnnihaaGreatRows
namespace Go.Proofs.YtgjfmljpdnnihaaGreat
set_option linter.defProp false
open Go.RowKit Go.Proofs.Tryz
set_option linter.unusedVariables false
set_option maxRecDepth 100000
abbrev KX:=KC Tryz.prog
abbrev KY:=BK Tryz.prog
abbrev gI:aa Lm:=[.int .i64,.int .i64,.int .i64,.int .i64]
abbrev zz1:aa (Nat×Rm):=[(1,.st .dV),(3,.aA [.int .i64,.int .i64,.int .i64,.int .i64,.int .i64,.int .i64,.int .i64,.int .i64,.int .i64,.int .i64,.int .i64,.int .i64,.int .i64,.int .i64,.int .i64,.int .i64,.int .i64,.int .i64,.int .i64,.int .i64,.int .i64,.int .i64,.bool,.int .i64,.int .i64,.int .i64,.int .i64,.int .i64,.int .i64,.int .i64,.int .i64,.int .i64,.int .i64,.own 1000000000109005,.int .i64,.int .i64,.int .i64,.int .i64,.int .i64,.int .i64,.int .i64,.own 1000000000109013,.int .i64,.int .i64,.bool,.int .i64,.own 1000000000113000,.int .i64,.own 1000000000117000,.own 1000000000117001,.own 1000000000121000,.own 1000000000121001,.own 1000000000121002,.int .i64,.own 1000000000126000,.own 1000000000131000,.int .i64,.bool,.own 33,.aF .int 0,.aF .Addr 0,.aF .eE 0,.aF .iG 0,.bool,.int .i64,.int .i64,.int .i64,.int .i64,.int .i64,.int .i64,.int .i64,.int .i64,.aF .iP 0,.aF .Event 0,.aF .nE 0]),(1000000000109005,.sl .int 2),(1000000000109013,.sl .int 2),(1000000000113000,.sl .jH 2),(1000000000117000,.sl .int 2),(1000000000117001,.sl .int 2),(1000000000121000,.sl .Cell 4),(1000000000121001,.sl .int 4),(1000000000121002,.sl .int 4),(1000000000126000,.sl .int 2),(1000000000131000,.sl .int 2),(33,.sl .mT 4)]
abbrev dP:aa (Bool×TC×Nat):=[(false,.bool,0)]
abbrev LO:aa Nat:=[90133,90141,90146,90148,90149,90150,90151,90152,90154,90155,90158,90159,90160,90161,90162,90172,90173,90174]
abbrev zz3:aa Gp:=[(4,.dV,4,LO),(5,.dV,4,[1000000000108033,1000000000108041,1000000000108046,1000000000108048,1000000000108049,1000000000108050,1000000000108051,1000000000108052,1000000000108054,1000000000108055,1000000000108058,1000000000108059,1000000000108060,1000000000108061,1000000000108062,1000000000108072,1000000000108073,1000000000108074])]
abbrev zz4:aa Gp:=[(2,.dV,4,LO),(3,.dV,4,[1000000000106033,1000000000106041,1000000000106046,1000000000106048,1000000000106049,1000000000106050,1000000000106051,1000000000106052,1000000000106054,1000000000106055,1000000000106058,1000000000106059,1000000000106060,1000000000106061,1000000000106062,1000000000106072,1000000000106073,1000000000106074])]
abbrev gd:aa (Bool×TC×Nat):=[(false,.int,0)]
abbrev Ea:aa Gp:=[(20000,.dV,4,[60033,60041,60046,60048,60049,60050,60051,60052,60054,60055,60058,60059,60060,60061,60062,60072,60073,60074])]
abbrev SO:bC:=⟨[],[],Ea⟩
abbrev LP:aa Lm:=[.own 90100,.own 90101,.own 90102]
abbrev zz7:aa (Nat×Rm):=[(6,.aA LP),(7,.aA [.own 1000000000110000,.own 1000000000110001,.own 1000000000110002]),(90100,.sl .Cell 4),(90101,.sl .int 2),(90102,.sl .int 2),(1000000000110000,.sl .Cell 4),(1000000000110001,.sl .int 4),(1000000000110002,.sl .int 4)]
abbrev zz9:aa Gp:=[(20000,.dV,4,[102000033,102000041,102000046,102000048,102000049,102000050,102000051,102000052,102000054,102000055,102000058,102000059,102000060,102000061,102000062,102000072,102000073,102000074])]
abbrev aac:aa (Nat×Rm):=[(2,.aA LP),(3,.aA [.own 90200,.own 6,.own 10]),(90100,.sl .Cell 4),(90101,.sl .int 2),(90102,.sl .int 2),(90200,.sl .Cell 4),(6,.sl .int 2),(10,.sl .int 2)]
abbrev LQ:aa Lm:=[.aF .int 0,.int .i64,.bool]
abbrev aad:aa (Nat×Rm):=[(2,.aA LQ),(4,.aA [.own 90100,.int .i64,.bool]),(5,.aA [.own 1000000000108000,.int .i64,.bool]),(90100,.sl .int 2),(1000000000108000,.sl .int 2)]
abbrev vQ:aa (Bool×TC×Nat):=[(false,(.sl .int),2)]
abbrev SP:aa (Nat×Rm):=[(1000000000112000,.sl .iP 2)]
abbrev aae:bC:=⟨[(1,tI),(2,tI),(8,.lf (.own 1000000000112000)),(30,.lf (.own 1000000000112000)),(31,tI),(32,tI)],SP,[]⟩
abbrev B9:aa Lm:=[.int .i64,.int .i64,.int .i64,.int .i64,.int .i64,.aF .int 0,.int .i64,.int .i64]
abbrev aaf:aa (Nat×Rm):=[(2,.aA gI),(4,.aA [.int .i64,.own 90101]),(6,.aA [.int .i64,.own 90201]),(90101,.sl .int 2),(90201,.sl .int 2)]
abbrev mA:bC:=⟨[],[],[]⟩
abbrev SQ:aa (Nat×Rm):=[(1,.st .dV),(2,.aA gI),(1000000000117000,.sl .int 2),(5,.aA gI)]
abbrev aag:aa Gp:=[(20000,.dV,4,[60033,60041,60046,60048,60049,60050,60051,60052,60054,60055,60058,60059,1000000000141000,60061,60062,60072,60073,60074])]
abbrev aah:aa Gp:=[(2,.dV,4,LO)]
abbrev aai:aa Lm:=[.int .i64,.int .i64,.int .i64,.bool,.int .i64,.int .i64]
abbrev aaj:bC:=⟨[(0,tI),(1,.lf (.aF .eE 0)),(5,.aJ 5 0),(8,tI)],[(5,.aA aai)],[]⟩
abbrev SR:aa Lm:=[.own 90100,.own 90101]
abbrev aak:aa (Nat×Rm):=[(2,.aA SR),(3,.aA [.own 13,.own 90201]),(90100,.sl .int 2),(90101,.sl .int 2),(13,.sl .int 2),(90201,.sl .int 2)]
abbrev sS:aa (Bool×TC):=[(false,.int)]
abbrev Af:aa (Bool×TC):=[(false,(.sl .int))]
abbrev aal:aa Lm:=[.int .i64,.int .i64,.int .i64,.int .i64,.int .i64,.own 1000000000115005,.int .i64,.int .i64]
abbrev uG:aa (Bool×TC):=[(true,.dV)]
abbrev aam:bC:=⟨[(0,.lf (.aF .int 0)),(3,.lf (.own 10)),(12,tI),(13,tI)],[(10,.sl .int 2)],[]⟩
abbrev aan:bC:=⟨[(0,tI),(1,.lf (.aF .eE 0)),(9,.lf (.aF .eE 0)),(10,tI),(11,tI)],[],[]⟩
abbrev sU:bC:=⟨[(4,tB)],[],[]⟩
abbrev uH:bC:=⟨[(2,tB)],[],[]⟩
abbrev Ca:bC:=⟨[(4,tI)],[],[]⟩
abbrev SS:aa Lm:=[.aF .jH 0,.int .i64]
abbrev SU:aa (Nat×Rm):=[(3,.aA SS),(1000000000115000,.sl .int 2)]
abbrev aao:bC:=⟨[(1,.aJ 1 0),(2,.aJ 2 0),(4,.lf (.own 1000000000117000)),(5,.aJ 5 0)],SQ,[]⟩
abbrev aap:aa (Nat×Rm):=[(3,.st .dV),(6,.aA gI),(8,.aA B9),(81,.sl .bool 2),(142,.sl .Command 2),(146,.sl .bool 2)]
abbrev aaq:aa Lm:=[.int .i64,.int .i64,.int .i64,.int .i64,.int .i64,.own 90105,.int .i64,.int .i64]
abbrev Hg:bC:=⟨[(5,tI)],[],[]⟩
abbrev LR:aa (Bool×TC):=[(false,(.sl .int)),(false,.int)]
abbrev yj:aa (Bool×TC):=[(true,.fG)]
abbrev aar:bC:=⟨[(1,tI),(2,.aJ 2 0),(4,.aJ 4 0),(6,.aJ 6 0),(7,tI)],aaf,[]⟩
abbrev aas:aa (Nat×Tm):=[(2,.aJ 20000 50),(12,tI),(75,.lf (.own 1000000000175000)),(76,tI),(77,tI)]
abbrev SV:aa (Nat×Rm):=[(98000,.sl .Addr 1000002)]
abbrev aat:bC:=⟨[(0,.lf (.own 98000)),(5,tI)],SV,[]⟩
abbrev aau:bC:=⟨[(1,tI),(2,tI),(8,.lf (.own 1000000000112000))],SP,[]⟩
abbrev Ag:aa PK:=[.p .r3 0 0]
abbrev LS:aa (Bool×TC):=[(false,.int),(false,.int)]
abbrev aav:aa Gp:=[(4,.dV,4,LO),(7,.dV,4,[1000000000133005,1000000000133013,1000000000120000,1000000000122000,1000000000122001,1000000000124000,1000000000124001,1000000000124002,1000000000141001,1000000000150000,90258,90259,90260,90261,1000000000157000,90272,90273,90274])]
abbrev Hh:aa (Nat×Rm):=[(1,.st .dV),(3,.aA gI)]
abbrev aaw:aa (Nat×Rm):=[(2,.aA gI),(3,.aA [.int .i64,.aF .int 0])]
abbrev aax:bC:=⟨[(2,.aJ 2 0),(3,.aJ 3 0),(7,tI),(8,tI)],aaw,[]⟩
abbrev Hi:aa Lm:=[.aF .int 0,.aF .int 0]
abbrev SW:aa (Nat×Rm):=[(3,.aA [.aF .Cell 0,.aF .int 0,.aF .int 0])]
abbrev aay:bC:=⟨[(0,.lf (.aF .iP 0)),(7,.lf (.aF .iP 0)),(8,tI),(9,tI)],[],[]⟩
abbrev aaz:bC:=⟨[(6,.lf (.own 1000000000112000)),(7,tB)],SP,[]⟩
abbrev aaA:aa (Nat×Rm):=[(3,.st .dV),(6,.aA gI),(8,.aA B9),(38,.sl .bool 2)]
abbrev aaB:aa (Nat×Rm):=[(4,.st .dV),(7,.aA gI),(8,.aA gI),(16,.sl .bool 2)]
abbrev aaC:bC:=⟨[(2,.aJ 2 0),(3,tI)],[(2,.aA gI)],[]⟩
abbrev aaD:bC:=⟨[(3,.lf (.own 6))],[(6,.sl .int 2)],[]⟩
abbrev aaE:aa Lm:=[.own 1000000000109000,.own 1000000000109001]
abbrev SX:aa (Bool×TC×Nat):=[(true,.dV,4),(false,.bool,0)]
abbrev SY:aa PK:=[.p .r3 0 0,.v false .int]
abbrev SZ:aa PK:=[.p .dV 4 0,.v false .int]
abbrev S0:aa (Nat×Tm):=[(2,.aJ 2 0),(3,.aJ 3 0)]
abbrev S1:aa Lm:=[.own 90100,.int .i64]
abbrev S2:aa (Bool×TC):=[(true,.fG),(false,.int)]
abbrev aaF:bC:=⟨[(0,tI),(3,tI)],[],[]⟩
abbrev aaG:aa Lm:=[.aF .u8 0,.int .i64,.int .i64]
abbrev aaH:bC:=⟨[(1,.aJ 1 0),(3,.aJ 3 0),(4,tI)],Hh,[]⟩
abbrev aaI:bC:=⟨[(1,.aJ 1 0),(3,.aJ 3 0)],Hh,[]⟩
abbrev aaJ:aa Lm:=[.own 1000000000116000,.int .i64]
abbrev aaK:aa Lm:=[.int .i64,.int .i64,.int .i64]
def S3(C:aa Int):ah (Bool):=some ((C.length:Int) > 1048576)
def akN:=bQ [(false,(.sl .u8))] dP (cw S3) 6 [] func6
abbrev aaL:=((aj×Int×Int×aj)×((aa Int)×aj))
def Hj(x:aaL):ah (aaL⊕(((aj×Int×aj)×((aa Int)×aj))⊕Empty)):=letI u1:=x.1.2.2.1;letI C:=aM (((),x.1.2.1,()),(x.2.1,()));bif u1<(x.2.1.length:Int)then bif u1<4000 then xI x.2.1 u1 λD=>xG (((),(bits .and .i64 (W6 ((W6 ((W6 (x.1.2.1*131))+(W6 D)))+7)) 1073741823),(W6 (u1+1)),()),(x.2.1,()))else C else C
def aaM:KY 32 (bx f23):=⟨0,lB 0 ⟨[(0,.lf (.own 20000)),(3,tI),(4,tI)],[(20000,.sl .u8 0)],[]⟩ [(2,⟨[(0,.lf (.own 20000)),(3,tI)],[(20000,.sl .u8 0)],[]⟩)] Hj,lp []⟩
def Cb(C:aa Int):ah Int:=bR Hj (((),(W6 (97301+(C.length:Int))),0,()),(C,())) λD=>some D.1.2.1
def aaN:enters Tryz.prog 23/\KQ Tryz.prog 23 Cb:=akh (N:=32) (fn:=f23) (code:=bx f23) (Φ:=(lM [])) (Λ:=(jA [(0,aaM.b)])) func23 (by kernel_rfl) (by kernel_rfl) (by kernel_rfl) (by kernel_rfl) (by kernel_rfl) (uD _ trivial) (SJ (by kernel_rfl) _ ⟨⟨_,by kernel_rfl,aaM.ok⟩,trivial⟩) (λl=>by kernel_rfl)
def Ah(C:bw):ah ((Int)×(bw×aj)):=letI D:=W6 ((W6 (C.h*6364136223846793005))+1442695040888963407);letI u1:=bits .and .i64 (bits .xor .i64 (D.fdiv (2 ^ (min (33:Int).toNat IntKind.i64.bits))) (D.fdiv (2 ^ (min (45:Int).toNat IntKind.i64.bits)))) 255;bif C.i<(C.b.length:Int)then xI C.b C.i λE=>some ((bits .and .i64 (W6 (u1+(W6 E))) 255),((⟨C.b,(W6 (C.i+1)),D⟩:bw),()))else some (u1,((⟨C.b,C.i,D⟩:bw),()))
def akO:=mz Ag gd (cw Ah) 58 [] func77
def eN(C:bw)(D:Int):ah ((Int)×(bw×aj)):=bif D <= 0 then some (0,(C,()))else bif D <= 256 then (Ah C).bind λE=>if D=0 then none else some ((E.1.tmod D),((⟨C.b,E.2.1.i,E.2.1.h⟩:bw),()))else (Ah C).bind λI=>(Ah (⟨C.b,I.2.1.i,I.2.1.h⟩:bw)).bind λO=>(Ah (⟨C.b,O.2.1.i,O.2.1.h⟩:bw)).bind λT=>(Ah (⟨C.b,T.2.1.i,T.2.1.h⟩:bw)).bind λU=>if D=0 then none else some (((W6 ((W6 ((W6 ((W6 (I.1*16777216))+(W6 (O.1*65536))))+(W6 (T.1*256))))+U.1)).tmod D),((⟨C.b,U.2.1.i,U.2.1.h⟩:bw),()))
def qi:=mz SY gd (di eN) 37 [akO] func26
def LU(C:bw):ah ((aH)×(bw×aj)):=(eN C 2).bind λD=>(eN (⟨C.b,D.2.1.i,D.2.1.h⟩:bw) 3).bind λE=>(eN (⟨C.b,E.2.1.i,E.2.1.h⟩:bw) 2).bind λI=>some ((⟨1,(W6 (1+D.1)),(W6 (2+E.1)),(W6 (1+I.1))⟩:aH),((⟨C.b,I.2.1.i,I.2.1.h⟩:bw),()))
def akP:=mz Ag [(true,.fG,0)] (cw LU) 13 [qi] func72
def aaO  : ah (bW):=some (⟨3,3,7,2,3,10,2,3,3,6,4,5,4,12,3,4,16⟩:bW)
def akQ:=bQ [] [(true,.js,0)] (Z5 aaO) 2 [] func73
def Cc(D:bw)(E:Int):ah ((Bool)×(bw×aj)):=(eN D E).bind λC=>some ((C.1==0),((⟨D.b,C.2.1.i,C.2.1.h⟩:bw),()))
def LV:=mz SY dP (di Cc) 9 [qi] func75
def LW(C:bw):ah ((qP)×(bw×aj)):=(eN C 3).bind λD=>(Cc (⟨C.b,D.2.1.i,D.2.1.h⟩:bw) 2).bind λE=>some ((⟨D.1,E.1⟩:qP),((⟨C.b,E.2.1.i,E.2.1.h⟩:bw),()))
def akR:=mz Ag [(true,.vi,0)] (cw LW) 8 [qi,LV] func74
def Hl(D:bw):ah ((fl)×(bw×aj)):=(LU D).bind λE=>(aaO).bind λC=>(LW (⟨D.b,E.2.1.i,E.2.1.h⟩:bw)).bind λI=>(eN (⟨D.b,I.2.1.i,I.2.1.h⟩:bw) 60).bind λZ=>letI O:=W6 (200+Z.1);(eN (⟨D.b,Z.2.1.i,Z.2.1.h⟩:bw) 3).bind λT=>(eN (⟨D.b,T.2.1.i,T.2.1.h⟩:bw) 2).bind λU=>(eN (⟨D.b,U.2.1.i,U.2.1.h⟩:bw) 3).bind λY=>(Cc (⟨D.b,Y.2.1.i,Y.2.1.h⟩:bw) 3).bind λy8=>letI u1:=(⟨D.b,y8.2.1.i,y8.2.1.h⟩:bw);bif y8.1 then (eN u1 5).bind λy9=>(eN (⟨D.b,y9.2.1.i,y9.2.1.h⟩:bw) 4).bind λrE=>some ((⟨⟨(W6 (1+U.1)),E.1.aE,(W6 (4+T.1)),E.1.aR⟩,⟨C.qQ,C.rp,C.jG,C.rT,C.om,C.jZ,C.rU,C.rV,(W6 (1+rE.1)),(W6 (4+y9.1)),C.rW,C.rX,C.vh,C.tL,C.tM,C.xp,C.xs⟩,I.1,Y.1,O,16,⟨(W6 (6*O)),40⟩⟩:fl),((⟨D.b,rE.2.1.i,rE.2.1.h⟩:bw),()))else some ((⟨⟨(W6 (1+U.1)),E.1.aE,(W6 (4+T.1)),E.1.aR⟩,C,I.1,Y.1,O,16,⟨(W6 (6*O)),40⟩⟩:fl),(u1,()))
def aaP:=mz Ag [(true,.Config,0)] (cw Hl) 44 [qi,akP,akQ,akR,LV] func24
def aaQ  : ah (dD):=some (⟨0,60,8,2,6,([1,1,1,1]:aa Int),⟨20,400⟩⟩:dD)
def akS:=bQ [] [(true,.mV,2)] (Z5 aaQ) 4 [] func177
def Ai(D:bw)(E:aa Int):ah ((Int)×(bw×aj)):=(eN D (E.length:Int)).bind λC=>xI E C.1 λI=>some (I,((⟨D.b,C.2.1.i,C.2.1.h⟩:bw),()))
def S4:=mz [.p .r3 0 0,.v false (.sl .int)] gd (di Ai) 12 [qi] func178
def LX(C:bw):ah ((dD)×(bw×aj)):=(aaQ).bind λy1=>(eN C 2).bind λI=>(Ai (⟨C.b,I.2.1.i,I.2.1.h⟩:bw) ([0,10,60,200]:aa Int)).bind λO=>(eN (⟨C.b,O.2.1.i,O.2.1.h⟩:bw) 6).bind λT=>(eN (⟨C.b,T.2.1.i,T.2.1.h⟩:bw) 3).bind λD=>(eN (⟨C.b,D.2.1.i,D.2.1.h⟩:bw) 4).bind λU=>(eN (⟨C.b,U.2.1.i,U.2.1.h⟩:bw) 4).bind λE=>(eN (⟨C.b,E.2.1.i,E.2.1.h⟩:bw) 4).bind λY=>xL y1.weights E.1 λS5=>(eN (⟨C.b,Y.2.1.i,Y.2.1.h⟩:bw) 20).bind λZ=>(eN (⟨C.b,Z.2.1.i,Z.2.1.h⟩:bw) 60).bind λkW=>some ((⟨I.1,O.1,(W6 (3+T.1)),D.1,(W6 ((W6 (D.1+1))+U.1)),(y1.weights.set E.1.toNat (W6 (1+Y.1))),⟨(W6 (5+Z.1)),(W6 (60+kW.1))⟩⟩:dD),((⟨C.b,kW.2.1.i,kW.2.1.h⟩:bw),()))
def akT:=mz Ag [(true,.mV,2)] (cw LX) 43 [qi,akS,S4] func76
def Ho(D:bw):ah ((dD)×(bw×aj)):=(LX D).bind λC=>(eN (⟨D.b,C.2.1.i,C.2.1.h⟩:bw) 10).bind λE=>some ((⟨C.1.eI,C.1.cap,(W6 (8+E.1)),C.1.low,C.1.high,C.1.weights,C.1.bF⟩:dD),((⟨D.b,E.2.1.i,E.2.1.h⟩:bw),()))
def aaR:=mz Ag [(true,.mV,2)] (cw Ho) 11 [qi,akT] func25
def Eb(C D E:Int):ah (Bool):=bif C >= D then some (C <= E)else some false
def akU:=bQ [(false,.int),(false,.int),(false,.int)] dP (iV Eb) 15 [] func144
def Hp(C:aH):ah (Bool):=(Eb C.bM 1 2).bind λD=>bif D then (Eb C.aE 1 4).bind λE=>bif E then (Eb C.rows 2 16).bind λI=>bif I then (Eb C.aR 1 8).bind λO=>some O else some false else some false else some false
def aaS:=bQ yj dP (cw Hp) 21 [akU] func216
def Ec(C:aH):ah (Int):=(Hp C).bind λD=>bif (!D)then some 0 else some (W6 (C.bM*C.aE))
def S6:=bQ yj gd (cw Ec) 11 [aaS] func180
def LY(C:aH):ah (Int):=(Hp C).bind λD=>bif (!D)then some 0 else (Ec C).bind λE=>some (W6 ((W6 (E*C.rows))*C.aR))
def akV:=bQ yj gd (cw LY) 14 [S6,aaS] func152
def LZ(C:bw)(D:aH):ah ((aP)×(bw×aj)):=(Ec D).bind λT=>(eN C T).bind λE=>(eN (⟨C.b,E.2.1.i,E.2.1.h⟩:bw) D.rows).bind λI=>(eN (⟨C.b,I.2.1.i,I.2.1.h⟩:bw) D.aR).bind λO=>some ((⟨E.1,I.1,O.1⟩:aP),((⟨C.b,O.2.1.i,O.2.1.h⟩:bw),()))
def akW:=mz [.p .r3 0 0,.v true .fG] [(true,.Addr,0)] (di LZ) 18 [qi,S6] func179
def L0(C:bw):ah ((Int)×(bw×aj)):=(eN C 4).bind λD=>letI E:=(⟨C.b,D.2.1.i,D.2.1.h⟩:bw);bif (D.1==0)then (Ai E ([0,1,4294967295,2147483648,65536,305419896]:aa Int)).bind λI=>some (I.1,((⟨C.b,I.2.1.i,I.2.1.h⟩:bw),()))else bif (D.1==1)then (eN E 200).bind λO=>some (O.1,((⟨C.b,O.2.1.i,O.2.1.h⟩:bw),()))else (eN E 65536).bind λT=>(eN (⟨C.b,T.2.1.i,T.2.1.h⟩:bw) 65536).bind λU=>some ((W6 ((W6 (T.1*65536))+U.1)),((⟨C.b,U.2.1.i,U.2.1.h⟩:bw),()))
def akX:=mz Ag gd (cw L0) 20 [qi,S4] func254
def L1(C:bw)(Z:Int):ah ((aV)×(bw×aj)):=(eN C 60).bind λD=>(eN (⟨C.b,D.2.1.i,D.2.1.h⟩:bw) 3).bind λE=>(eN (⟨C.b,E.2.1.i,E.2.1.h⟩:bw) Z).bind λI=>(eN (⟨C.b,I.2.1.i,I.2.1.h⟩:bw) 50).bind λO=>(Cc (⟨C.b,O.2.1.i,O.2.1.h⟩:bw) 2).bind λT=>letI Y:=(⟨C.b,T.2.1.i,T.2.1.h⟩:bw);bif T.1 then (L0 Y).bind λU=>some ((⟨(W6 (1+D.1)),E.1,I.1,true,U.1,O.1⟩:aV),((⟨C.b,U.2.1.i,U.2.1.h⟩:bw),()))else some ((⟨(W6 (1+D.1)),E.1,I.1,false,0,O.1⟩:aV),(Y,()))
def akY:=mz SY [(true,.eE,0)] (di L1) 24 [qi,LV,akX] func181
def L2(C:bw)(D:fl)(x2:Int):ah ((jr)×(bw×aj)):=letI u3:=W6 (D.ak.rows-D.cS);(LY D.ak).bind λy1=>if D.ak.rows=0 then none else (let T:Int -> Int -> Int -> Int -> Bool -> Int -> Int -> Int -> Int -> Int -> Int -> Int -> Int -> Int -> ah ((jr)×(bw×aj)):=λS7 j19 Hq L3 j22 j23 j24 j25 j26 S8 L4 L5 L6 j31=>some ((⟨S7,⟨j19,Hq,L3,j22,j23,j24⟩,j25,j26,⟨S8,L4,L5⟩,⟨0,0,0,0,0,[],⟨0,0⟩⟩⟩:jr),((⟨C.b,L6,j31⟩:bw),()));(eN C 12).bind λE=>letI U:=(⟨C.b,E.2.1.i,E.2.1.h⟩:bw);(let Hr:Bool -> ah ((jr)×(bw×aj)):=λj3=>bif j3 then (Ai U ([1,3,10,20,40]:aa Int)).bind λY=>(T 2 0 0 0 false 0 0 Y.1 0 0 0 0 Y.2.1.i Y.2.1.h)else bif (E.1==2)then (LZ U D.ak).bind λI=>(eN (⟨C.b,I.2.1.i,I.2.1.h⟩:bw) 11).bind λZ=>(eN (⟨C.b,Z.2.1.i,Z.2.1.h⟩:bw) 16).bind λy7=>(T 3 0 0 0 false 0 0 y7.1 Z.1 I.1.ay I.1.row I.1.bZ y7.2.1.i y7.2.1.h)else bif (E.1==3)then (Ai U ([4,5,6,2]:aa Int)).bind λy8=>(eN (⟨C.b,y8.2.1.i,y8.2.1.h⟩:bw) 2).bind λy9=>(Ec D.ak).bind λrE=>(eN (⟨C.b,y9.2.1.i,y9.2.1.h⟩:bw) rE).bind λoS=>(eN (⟨C.b,oS.2.1.i,oS.2.1.h⟩:bw) u3).bind λvR=>(Ho (⟨C.b,vR.2.1.i,vR.2.1.h⟩:bw)).bind λkW=>some ((⟨y8.1,⟨0,0,0,false,0,0⟩,y9.1,0,⟨oS.1,vR.1,0⟩,kW.1⟩:jr),((⟨C.b,kW.2.1.i,kW.2.1.h⟩:bw),()))else (L1 U (W6 ((W6 (y1.tdiv D.ak.rows))*u3))).bind λnT=>letI u2:=nT.1;(Cc (⟨C.b,nT.2.1.i,nT.2.1.h⟩:bw) 2).bind λO=>letI u1:=T 1 x2 u2.dR u2.line u2.write u2.data u2.at_ 0 0 0 0 0 O.2.1.i O.2.1.h;bif O.1 then (eN (⟨C.b,O.2.1.i,O.2.1.h⟩:bw) 3).bind λqj=>(T 1 x2 u2.dR qj.1 u2.write u2.data u2.at_ 0 0 0 0 0 qj.2.1.i qj.2.1.h)else u1;bif (E.1==0)then (Hr (E.1==0))else (Hr (E.1==1))))
def akZ:=mz [.p .r3 0 0,.v true .Config,.v false .int] [(true,.Act,2)] (iV L2) 87 [aaR,qi,LV,akV,S4,akW,S6,akY] func78
def ak0:enters Tryz.prog 79/\qa Tryz.prog 79 (cj Tryz.prog f79 1 []):=Hf (D9 1 [] func79 trivial)
def L7(D:bw):ah ((jr)×(bw×aj)):=(Hl D).bind λI=>(eN (⟨D.b,I.2.1.i,I.2.1.h⟩:bw) 40).bind λO=>(L2 (⟨D.b,O.2.1.i,O.2.1.h⟩:bw) I.1 (W6 (1+O.1))).bind λT=>letI u1:=T.1;letI u3:=([u1.eK.eI,u1.eK.cap,u1.eK.dG,u1.eK.low,u1.eK.high]:aa Int);letI E:=((⟨D.b,T.2.1.i,T.2.1.h⟩:bw),());(let C:Int -> Int -> Int -> Int -> Bool -> Int -> Int -> Int -> Int -> Int -> Int -> ah ((jr)×(bw×aj)):=λU Y Z Aj L8 L9 Ed j14 Ma Mb Md=>bif xZ ([]:aa Int)then bif (U != 5)then some ((⟨U,⟨Y,Z,Aj,L8,L9,0⟩,Ed,j14,⟨Ma,Mb,Md⟩,⟨0,0,0,0,0,[],⟨0,0⟩⟩⟩:jr),E)else some ((⟨U,⟨Y,Z,Aj,L8,L9,0⟩,Ed,j14,⟨Ma,Mb,Md⟩,⟨0,0,0,0,0,(xA ([]:aa Int)),⟨0,0⟩⟩⟩:jr),E)else none;letI u8:=C 0 0 0 0 false 0 0 0 0 0 0;letI u6:=C u1.kind 0 0 0 false 0 0 0 u1.addr.ay u1.addr.row 0;letI u4:=C u1.kind 0 0 0 false 0 u1.n u1.JS u1.addr.ay u1.addr.row u1.addr.bZ;letI u2:=C u1.kind 0 0 0 false 0 u1.n 0 0 0 0;bif (u1.kind==1)then (let k6:ByteArray -> Int -> ah ((jr)×(bw×aj)):=λj4 j5=>(C u1.kind u1.request.id u1.request.dR u1.request.line u1.request.write j5 0 0 0 0 0);letI u7:=k6 (ByteArray.mk #[114,101,97,100]) 0;letI u5:=k6 (ByteArray.mk #[119,114,105,116,101]) u1.request.data;bif (!u1.request.write)then u7 else u5)else bif (u1.kind==2)then u2 else bif (u1.kind==4)then u2 else bif (u1.kind==3)then u4 else bif (u1.kind==6)then u6 else bif (u1.kind==5)then bif bV (u3.length+u1.eK.weights.length)then bif bV ((u3++u1.eK.weights).length+([u1.eK.bF.down,u1.eK.bF.sleep]:aa Int).length)then bif xZ u1.eK.weights then bif (u1.kind != 5)then some ((⟨u1.kind,⟨0,0,0,false,0,0⟩,0,0,⟨0,0,0⟩,⟨0,0,0,0,0,[],⟨0,0⟩⟩⟩:jr),E)else some ((⟨u1.kind,⟨0,0,0,false,0,0⟩,0,0,⟨0,0,0⟩,⟨u1.eK.eI,u1.eK.cap,u1.eK.dG,u1.eK.low,u1.eK.high,(xA u1.eK.weights),u1.eK.bF⟩⟩:jr),E)else none else none else none else u8)
def ak1:=mz Ag [(true,.Act,2)] (cw L7) 33 [aaP,qi,akZ,⟨79,.i _,ak0⟩] func27
def ak2:bC:=⟨[(2,.aJ 2 0),(3,.aJ 3 0),(5,.aJ 1000000000111000 0),(6,.aJ 6 0),(7,.aJ 7 0),(8,.lf (.own 16)),(9,tI)],[(2,.st .Config),(3,.aA aaq),(1000000000111000,.aA aaG),(6,.st .Config),(7,.aA aal),(16,.sl .Act 4),(90105,.sl .int 2),(1000000000115005,.sl .int 2)],[]⟩
def ak3:aa (Nat×bC):=[(2,⟨[(2,.aJ 2 0),(3,.aJ 3 0),(6,.aJ 6 0),(7,.aJ 7 0),(8,.lf (.own 16))],[(2,.st .Config),(3,.aA aaq),(6,.st .Config),(7,.aA aal),(16,.sl .Act 4),(90105,.sl .int 2),(1000000000115005,.sl .int 2)],[]⟩)]
abbrev aaT:=((aj×aj×aj×aj×aj×aj×Int×aj)×(fl×(Int×Int×Int×Int×Int×aj×Int×Int×aj)×((aa Int)×Int×Int×aj)×fl×(Int×Int×Int×Int×Int×aj×Int×Int×aj)×(aa jr)×(aa Int)×(aa Int)×aj))
def Hs(x:aaT):ah (aaT⊕(((aj×aj×aj×aj×aj×aj)×(fl×(Int×Int×Int×Int×Int×aj×Int×Int×aj)×fl×(Int×Int×Int×Int×Int×aj×Int×Int×aj)×(aa jr)×(aa Int)×(aa Int)×aj))⊕Empty)):=letI C:=x.2.2.2;letI u1:=C.2.2.2;(eN (⟨C.1.1,C.1.2.1,C.1.2.2.1⟩:bw) 10).bind λE=>bif x.1.2.2.2.2.2.2.1<E.1 then (L7 (⟨C.1.1,E.2.1.i,E.2.1.h⟩:bw)).bind λD=>bif bV (u1.1.length+[D.1].length)then xG (((),(),(),(),(),(),(W6 (x.1.2.2.2.2.2.2.1+1)),()),(x.2.1,x.2.2.1,(C.1.1,D.2.1.i,D.2.1.h,()),C.2.1,C.2.2.1,(u1.1++[D.1]),u1.2.1,u1.2.2.1,()))else none else aM (((),(),(),(),(),()),(x.2.1,x.2.2.1,C.2.1,C.2.2.1,u1.1,u1.2.1,u1.2.2.1,()))
def ak4:KY 31 (bx f7):=⟨0,lB 0 ak2 ak3 Hs,lp [qi,ak1]⟩
def Me(E:aa Int):ah (fl×dD×(aa jr)):=(Cb E).bind λT=>(Hl (⟨E,0,T⟩:bw)).bind λI=>(Ho (⟨E,I.2.1.i,I.2.1.h⟩:bw)).bind λC=>bR Hs (((),(),(),(),(),(),0,()),((⟨⟨0,0,0,0⟩,⟨0,0,0,0,0,0,0,0,0,0,0,0,0,0,0,0,0⟩,⟨0,false⟩,0,0,0,⟨0,0⟩⟩:fl),(0,0,0,0,0,(),0,0,()),(E,C.2.1.i,C.2.1.h,()),I.1,(C.1.eI,C.1.cap,C.1.dG,C.1.low,C.1.high,(),C.1.bF.down,C.1.bF.sleep,()),([]:aa jr),([]:aa Int),C.1.weights,())) λO=>letI D:=O.2.2.2.2;letI u1:=D.1.2.2;some (O.2.2.2.1,(⟨D.1.1,D.1.2.1,u1.1,u1.2.1,u1.2.2.1,D.2.2.2.1,⟨u1.2.2.2.2.1,u1.2.2.2.2.2.1⟩⟩:dD),D.2.1)
def ak5:=dg [(false,(.sl .u8))] [(true,.Config,0),(true,.mV,2),(false,(.sl .Act),4)] (cw Me) 31 [⟨23,.n Cb,aaN⟩,aaP,aaR] [ak4] func7
abbrev aaU:=((aj×aj×Int×aj)×(((aa Int)×Int×Int×aj)×(aa Int)×aj))
def Hu(x:aaU):ah (aaU⊕(((aj×aj)×((aa Int)×aj))⊕Empty)):=bif x.1.2.2.1<12 then (eN (⟨x.2.1.1,x.2.1.2.1,x.2.1.2.2.1⟩:bw) 10000).bind λC=>bif bV (x.2.2.1.length+([C.1]:aa Int).length)then xG (((),(),(W6 (x.1.2.2.1+1)),()),((x.2.1.1,C.2.1.i,C.2.1.h,()),(x.2.2.1++([C.1]:aa Int)),()))else none else aM (((),()),(x.2.2.1,()))
def ak6:KY 19 (bx f8):=⟨0,lB 0 ⟨[(3,.aJ 1000000000107000 0),(4,.lf (.own 8)),(5,tI)],[(1000000000107000,.aA aaG),(8,.sl .int 2)],[]⟩ [(2,⟨[(4,.lf (.own 8))],[(8,.sl .int 2)],[]⟩)] Hu,lp [qi]⟩
def Mf(C:aa Int):ah ((aa Int)):=(Cb C).bind λD=>bR Hu (((),(),0,()),((C,0,D,()),([]:aa Int),())) λE=>some E.2.1
def ak7:=dg [(false,(.sl .u8))] vQ (cw Mf) 19 [⟨23,.n Cb,aaN⟩] [ak6] func8
def bU(C D E:Int):ah (Bool):=bif C >= D then some (C <= E)else some false
def dM:=bQ [(false,.int),(false,.int),(false,.int)] dP (iV bU) 15 [] func40
def ni(C:aH):ah (Bool):=(bU C.bM 1 2).bind λD=>bif D then (bU C.aE 1 4).bind λE=>bif E then (bU C.rows 2 16).bind λI=>bif I then (bU C.aR 1 8).bind λO=>some O else some false else some false else some false
def qk:=bQ yj dP (cw ni) 21 [dM] func83
def jB(C:aH):ah (Int):=(ni C).bind λD=>bif (!D)then some 0 else some (W6 (C.bM*C.aE))
def lN:=bQ yj gd (cw jB) 11 [qk] func35
abbrev aaV:=((Int×aj×aj×aj×Int×Int×aj)×((Int×Int×Int×Int×aj)×(Int×aj×aj)×(Int×aj×aj)×(aa Int)×(aa Int)×aj))
def Ee(x:aaV):ah (aaV⊕(((Int×aj×aj×aj×Int×aj)×((Int×Int×Int×Int×aj)×(Int×aj×aj)×(Int×aj×aj)×(aa Int)×(aa Int)×aj))⊕Empty)):=letI u1:=x.2.2.2;letI C:=x.1.2.2.2.2;bif C.2.1<(W6 (x.2.1.2.2.1-x.1.1))then bif bV (u1.2.2.1.length+([C.2.1]:aa Int).length)then xG ((x.1.1,(),(),(),C.1,(W6 (C.2.1+1)),()),(x.2.1,x.2.2.1,u1.1,u1.2.1,(u1.2.2.1++([C.2.1]:aa Int)),()))else none else aM ((x.1.1,(),(),(),C.1,()),(x.2.1,x.2.2.1,u1.1,u1.2.1,u1.2.2.1,()))
def ak8:KY 48 (yg (bx f33) 0):=⟨2,lB 2 ⟨[(1,tI),(2,.aJ 2 0),(4,.aJ 4 0),(6,.aJ 6 0),(7,tI),(8,tI)],aaf,[]⟩ [(4,aar)] Ee,lp []⟩
abbrev aaW:=((Int×aj×aj×aj×Int×aj)×((Int×Int×Int×Int×aj)×(Int×aj×aj)×(Int×aj×aj)×(aa Int)×(aa Int)×aj))
def Hv(x:aaW):ah (aaW⊕(((aj×aj×aj)×((Int×aj×aj)×(Int×aj×aj)×(aa Int)×(aa Int)×aj))⊕Empty)):=letI D:=x.2.2.2;(jB (⟨x.2.1.1,x.2.1.2.1,x.2.1.2.2.1,x.2.1.2.2.2.1⟩:aH)).bind λE=>bif x.1.2.2.2.2.1<E then bR Ee ((x.1.1,(),(),(),x.1.2.2.2.2.1,0,()),(x.2.1,x.2.2.1,D.1,D.2.1,D.2.2.1,())) λC=>xG ((C.1.1,(),(),(),(W6 (C.1.2.2.2.2.1+1)),()),(C.2.1,C.2.2.1,C.2.2.2.1,C.2.2.2.2.1,C.2.2.2.2.2.1,()))else aM (((),(),()),(x.2.2.1,D.1,D.2.1,D.2.2.1,()))
def ak9:KY 48 (bx f33):=⟨0,lB 0 aar [(2,⟨[(4,.aJ 4 0),(6,.aJ 6 0)],[(4,.aA [.int .i64,.own 90101]),(6,.aA [.int .i64,.own 90201]),(90101,.sl .int 2),(90201,.sl .int 2)],[]⟩)] Hv,lq [lN] [ak8]⟩
def Ef(C:aH)(D:Int):ah (ke×Bool):=letI E:=some ((⟨0,[]⟩:ke),false);(ni C).bind λO=>bif (!O)then E else (bU D 0 2).bind λT=>bif (!T)then E else bif (W6 (C.rows-D))<2 then E else bR Hv ((D,(),(),(),0,()),((C.bM,C.aE,C.rows,C.aR,()),(0,(),()),(D,(),()),([]:aa Int),([]:aa Int),())) λI=>some ((⟨I.2.2.1.1,I.2.2.2.2.1⟩:ke),true)
def S9:=dg S2 [(true,.rY,2),(false,.bool,0)] (di Ef) 48 [dM,qk] [ak9] func33
abbrev aaX:=((aj×aj×Int×Int×aj)×(bW×(aa Int)×aj))
def Eg(x:aaX):ah (aaX⊕(((Bool×aj)×(aj))⊕(((aj×aj)×(bW×aj))⊕Empty))):=letI C:=x.1.2.2;bif C.2.1<C.1 then xL x.2.2.1 C.2.1 λD=>(bU D 1 64).bind λE=>bif (!E)then aM ((false,()),())else xG (((),(),C.1,(W6 (C.2.1+1)),()),(x.2.1,x.2.2.1,()))else bG (((),()),(x.2.1,()))
def ala:KY 75 (bx f113):=⟨0,lB 0 ⟨[(1,.aJ 1 0),(39,.lf (.own 39)),(40,tI),(41,tI)],[(1,.st .js),(39,.sl .int 2)],[]⟩ [(1,uH),(2,⟨[(1,.aJ 1 0)],[(1,.st .js)],[]⟩)] Eg,lp [dM]⟩
def Cd(C:bW):ah (Bool):=letI D:=([C.qQ,C.rp,C.jG,C.rT,C.om,C.jZ,C.rU,C.rV,C.mQ,C.wr,C.rW,C.rX,C.vh,C.tL,C.tM,C.xp,C.xs]:aa Int);cZ Eg (((),(),(D.length:Int),0,()),(C,D,())) (λE=>some E.1.1) λI=>letI u1:=I.2.1;bif u1.qQ <= u1.jG then bif u1.rT <= u1.om then bif u1.rU <= u1.rV then some (u1.rW <= u1.rX)else some false else some false else some false
def Mg:=dg [(true,.js)] dP (cw Cd) 75 [] [ala] func113
def Hw(C:qP):ah (Bool):=(bU C.order 0 2).bind λD=>some D
def aaY:=bQ [(true,.vi)] dP (cw Hw) 6 [dM] func182
def Ce(C:bW):ah (Int):=(Cd C).bind λD=>bif (!D)then some 0 else some (W6 (2*(W6 ((W6 ((W6 ((W6 ((W6 ((W6 ((W6 ((W6 ((W6 (C.tM+C.xp))+C.jG))+C.wr))+C.mQ))+C.rp))+C.tL))+C.qQ))+(W6 (8*C.om))))+16))))
def alb:=bQ [(true,.js)] gd (cw Ce) 35 [Mg] func183
def Mh(C:fl):ah (Bool):=(Ef C.ak C.cS).bind λD=>(ni C.ak).bind λE=>bif E then (Cd C.bP).bind λI=>bif I then (Hw C.mapping).bind λO=>bif O then bif D.2 then (Ce C.bP).bind λT=>(bU C.interval T 10000).bind λU=>bif U then (bU C.gU 1 16).bind λY=>bif Y then (bU C.dO.bu (W6 (6*C.interval)) 100000).bind λZ=>bif Z then (bU C.dO.bg 0 100000).bind λy9=>some y9 else some false else some false else some false else some false else some false else some false else some false
def alc:=bQ [(true,.Config)] dP (cw Mh) 57 [S9,dM,qk,Mg,aaY,alb] func80
abbrev aaZ:=(((aa dw)×(aa dw)×Int×Int×aj)×(aj))
def Hx(x:aaZ):ah (aaZ⊕(((Bool×aj)×(aj))⊕((((aa dw)×aj)×(aj))⊕Empty))):=letI C:=x.1.2.2;bif C.2.1<C.1 then xI x.1.2.1 C.2.1 λD=>(bU D.weight 1 9).bind λE=>bif (!E)then aM ((false,()),())else (bU D.fB 0 D.weight).bind λI=>bif (!I)then aM ((false,()),())else xG ((x.1.1,x.1.2.1,C.1,(W6 (C.2.1+1)),()),())else bG ((x.1.1,()),())
def ald:KY 27 (bx f60):=⟨0,lB 0 ⟨[(0,.lf (.aF .iG 0)),(5,.lf (.aF .iG 0)),(6,tI),(7,tI)],[],[]⟩ [(1,uH),(2,⟨[(0,.lf (.aF .iG 0))],[],[]⟩)] Hx,lp [dM]⟩
def Eh(C:aa dw):ah (Bool):=cZ Hx ((C,C,(C.length:Int),0,()),()) (λD=>some D.1.1) λE=>(bU (E.1.1.length:Int) 1 4).bind λI=>some I
def Ta:=dg [(false,(.sl .iG))] dP (cw Eh) 27 [dM] [ald] func60
abbrev aa0:=((aj×(aa Int)×Int×Int×aj)×((aa dw)×aj))
def Hy(x:aa0):ah (aa0⊕(((aj×aj)×((aa dw)×aj))⊕Empty)):=letI u1:=x.1.2.2;bif u1.2.1<u1.1 then xI x.1.2.1 u1.2.1 λC=>letI D:=([(⟨C,C⟩:dw)]:aa dw);bif bV (x.2.1.length+D.length)then xG (((),x.1.2.1,u1.1,(W6 (u1.2.1+1)),()),((x.2.1++D),()))else none else aM (((),()),(x.2.1,()))
def ale:KY 25 (bx f36):=⟨0,lB 0 ⟨[(4,.lf (.own 7)),(8,.lf (.aF .int 0)),(9,tI),(10,tI)],[(7,.sl .iG 2)],[]⟩ [(2,⟨[(4,.lf (.own 7))],[(7,.sl .iG 2)],[]⟩)] Hy,lp []⟩
def yl(C:aa Int):ah ((aa dw)×Bool):=bR Hy (((),C,(C.length:Int),0,()),(([]:aa dw),())) λD=>(Eh D.2.1).bind λE=>bif (!E)then some ([],false)else some (D.2.1,true)
def Tb:=dg Af [(false,(.sl .iG),2),(false,.bool,0)] (cw yl) 25 [Ta] [ale] func36
def Cf(C:mR):ah (Bool):=bif C.low >= 0 then bif C.low<C.high then some (C.high <= 12)else some false else some false
def Mi:=bQ [(true,.tO)] dP (cw Cf) 18 [] func61
def Hz(C:wG):ah (Bool):=(bU C.down 1 10000).bind λD=>bif D then bif C.sleep > C.down then some (C.sleep <= 20000)else some false else some false
def aa1:=bQ [(true,.wJ)] dP (cw Hz) 18 [dM] func184
def HA(C:dD):ah (Bool):=(yl C.weights).bind λE=>letI D:=(bU C.cap 0 100000).bind λI=>bif I then (bU C.dG 3 1000).bind λO=>bif O then (Cf (⟨false,C.low,C.high⟩:mR)).bind λT=>bif T then bif ((C.weights.length:Int)==4)then bif E.2 then (Hz C.bF).bind λU=>some U else some false else some false else some false else some false else some false;bif (C.eI==0)then D else bif (C.eI==1)then D else some false
def aa2:=bQ [(true,.mV)] dP (cw HA) 51 [Tb,dM,Mi,aa1] func81
def Ak(C:Int):ah (Int):=(bU C 3 1000).bind λD=>bif (!D)then some 0 else some (W6 ((W6 (2*C))+2))
def alf:=bQ sS gd (cw Ak) 9 [dM] func82
def sV(C:fl)(D:dD):ah (Bool):=letI E:=W6 (C.bP.jG+C.bP.rp);(Mh C).bind λI=>bif I then (HA D).bind λO=>bif O then (Ak D.dG).bind λT=>bif (W6 (T+2)) <= C.dO.bg then if E=0 then none else some ((W6 ((W6 (C.gU+1))*D.dG)) > (W6 ((W6 ((W6 (5*C.interval)).tdiv E))+2)))else some false else some false else some false
def aa3:=bQ [(true,.Config),(true,.mV)] dP (di sV) 42 [alc,aa2,alf] func28
end Go.Proofs.YtgjfmljpdnnihaaGreat
