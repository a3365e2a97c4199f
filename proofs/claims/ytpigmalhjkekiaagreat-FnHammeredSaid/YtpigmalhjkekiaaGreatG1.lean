/-
  Functions of the program as plain functions of contents, and that the code computes them. Nothing here is a claim.
-/
import Derived.Test.YtpigmalhjkekiaaGreatVZ
import Derived.Test.YtpigmalhjkekiaaGreatRows
namespace Go.Proofs.YtpigmalhjkekiaaGreat
set_option linter.defProp false
open Go.RowKit Go.Proofs.Tryz
set_option linter.unusedVariables false
set_option maxRecDepth 100000
abbrev KX:=KC Tryz.prog
abbrev KY:=BK Tryz.prog
abbrev gQ:aa Lm:=[.int .i64,.int .i64,.int .i64,.int .i64]
abbrev zz1:aa (Nat×Rm):=[(1,.st .eC),(3,.aB [.int .i64,.int .i64,.int .i64,.int .i64,.int .i64,.int .i64,.int .i64,.int .i64,.int .i64,.int .i64,.int .i64,.int .i64,.int .i64,.int .i64,.int .i64,.int .i64,.int .i64,.int .i64,.int .i64,.int .i64,.int .i64,.int .i64,.bool,.int .i64,.int .i64,.int .i64,.int .i64,.int .i64,.int .i64,.int .i64,.int .i64,.int .i64,.int .i64,.own 1000000000109005,.int .i64,.int .i64,.int .i64,.int .i64,.int .i64,.int .i64,.int .i64,.own 1000000000109013,.int .i64,.int .i64,.bool,.int .i64,.own 1000000000113000,.int .i64,.own 1000000000117000,.own 1000000000117001,.own 1000000000121000,.own 1000000000121001,.own 1000000000121002,.int .i64,.own 1000000000126000,.own 1000000000131000,.int .i64,.bool,.own 33,.aG .int 0,.aG .Addr 0,.aG .eK 0,.aG .iM 0,.bool,.int .i64,.int .i64,.int .i64,.int .i64,.int .i64,.int .i64,.int .i64,.int .i64,.aG .iV 0,.aG .Event 0,.aG .nN 0]),(1000000000109005,.sl .int 2),(1000000000109013,.sl .int 2),(1000000000113000,.sl .ke 2),(1000000000117000,.sl .int 2),(1000000000117001,.sl .int 2),(1000000000121000,.sl .Cell 4),(1000000000121001,.sl .int 4),(1000000000121002,.sl .int 4),(1000000000126000,.sl .int 2),(1000000000131000,.sl .int 2),(33,.sl .mZ 4)]
abbrev dJ:aa (Bool×TC×Nat):=[(false,.bool,0)]
abbrev S6:aa Nat:=[90133,90141,90146,90148,90149,90150,90151,90152,90154,90155,90158,90159,90160,90161,90162,90172,90173,90174]
abbrev zz3:aa Gp:=[(4,.eC,4,S6),(5,.eC,4,[1000000000108033,1000000000108041,1000000000108046,1000000000108048,1000000000108049,1000000000108050,1000000000108051,1000000000108052,1000000000108054,1000000000108055,1000000000108058,1000000000108059,1000000000108060,1000000000108061,1000000000108062,1000000000108072,1000000000108073,1000000000108074])]
abbrev gq:aa (Bool×TC×Nat):=[(false,.int,0)]
abbrev zz5:aa Gp:=[(7,.eC,4,[1000000000124033,1000000000124041,1000000000124046,1000000000124048,1000000000124049,1000000000124050,1000000000124051,1000000000124052,1000000000124054,1000000000124055,1000000000124058,1000000000124059,1000000000124060,1000000000124061,1000000000124062,1000000000124072,1000000000124073,1000000000124074])]
abbrev D7:aa Gp:=[(20000,.eC,4,[60033,60041,60046,60048,60049,60050,60051,60052,60054,60055,60058,60059,60060,60061,60062,60072,60073,60074])]
abbrev S7:bD:=⟨[],[],D7⟩
abbrev L2:aa Lm:=[.own 90100,.own 90101,.own 90102]
abbrev zz7:aa (Nat×Rm):=[(6,.aB L2),(7,.aB [.own 1000000000110000,.own 1000000000110001,.own 1000000000110002]),(90100,.sl .Cell 4),(90101,.sl .int 2),(90102,.sl .int 2),(1000000000110000,.sl .Cell 4),(1000000000110001,.sl .int 4),(1000000000110002,.sl .int 4)]
abbrev zz9:aa Gp:=[(20000,.eC,4,[102000033,102000041,102000046,102000048,102000049,102000050,102000051,102000052,102000054,102000055,102000058,102000059,102000060,102000061,102000062,102000072,102000073,102000074])]
abbrev aaj:aa (Nat×Rm):=[(2,.aB L2),(3,.aB [.own 90200,.own 6,.own 10]),(90100,.sl .Cell 4),(90101,.sl .int 2),(90102,.sl .int 2),(90200,.sl .Cell 4),(6,.sl .int 2),(10,.sl .int 2)]
abbrev L3:aa Lm:=[.aG .int 0,.int .i64,.bool]
abbrev aak:aa (Nat×Rm):=[(2,.aB L3),(4,.aB [.own 90100,.int .i64,.bool]),(5,.aB [.own 1000000000108000,.int .i64,.bool]),(90100,.sl .int 2),(1000000000108000,.sl .int 2)]
abbrev vO:aa (Bool×TC×Nat):=[(false,(.sl .int),2)]
abbrev S8:aa (Nat×Rm):=[(1000000000112000,.sl .iV 2)]
abbrev aal:bD:=⟨[(1,tI),(2,tI),(8,.lf (.own 1000000000112000)),(30,.lf (.own 1000000000112000)),(31,tI),(32,tI)],S8,[]⟩
abbrev B3:aa Lm:=[.int .i64,.int .i64,.int .i64,.int .i64,.int .i64,.aG .int 0,.int .i64,.int .i64]
abbrev aam:aa (Nat×Rm):=[(2,.aB gQ),(4,.aB [.int .i64,.own 90101]),(6,.aB [.int .i64,.own 90201]),(90101,.sl .int 2),(90201,.sl .int 2)]
abbrev S9:bD:=⟨[(1,tI),(2,.aL 2 0),(4,.aL 4 0),(6,.aL 6 0),(7,tI)],aam,[]⟩
abbrev qm:bD:=⟨[(4,tB)],[],[]⟩
abbrev Ta:aa (Nat×Rm):=[(1,.st .eC),(2,.aB gQ),(1000000000117000,.sl .int 2),(5,.aB gQ)]
abbrev uE:bD:=⟨[(2,tB)],[],[]⟩
abbrev aan:aa Gp:=[(20000,.eC,4,[60033,60041,60046,60048,60049,60050,60051,60052,60054,60055,60058,60059,1000000000141000,60061,60062,60072,60073,60074])]
abbrev aao:aa Gp:=[(2,.eC,4,S6)]
abbrev aap:aa Lm:=[.int .i64,.int .i64,.int .i64,.bool,.int .i64,.int .i64]
abbrev aaq:bD:=⟨[(0,tI),(1,.lf (.aG .eK 0)),(5,.aL 5 0),(8,tI)],[(5,.aB aap)],[]⟩
abbrev Tb:aa Lm:=[.own 90100,.own 90101]
abbrev aar:aa (Nat×Rm):=[(2,.aB Tb),(3,.aB [.own 13,.own 90201]),(90100,.sl .int 2),(90101,.sl .int 2),(13,.sl .int 2),(90201,.sl .int 2)]
abbrev B4:bD:=⟨[(4,tI)],[],[]⟩
abbrev Tc:aa Lm:=[.aG .ke 0,.int .i64]
abbrev Td:aa (Nat×Rm):=[(3,.aB Tc),(1000000000115000,.sl .int 2)]
abbrev Hf:aa (Bool×TC):=[(false,(.sl .int)),(false,.int)]
abbrev sX:aa (Bool×TC):=[(false,.int)]
abbrev zR:aa (Bool×TC):=[(false,(.sl .int))]
abbrev aas:aa Gp:=[(4,.eC,4,S6),(7,.eC,4,[1000000000133005,1000000000133013,1000000000120000,1000000000122000,1000000000122001,1000000000124000,1000000000124001,1000000000124002,1000000000141001,1000000000150000,90258,90259,90260,90261,1000000000157000,90272,90273,90274])]
abbrev lC:bD:=⟨[],[],[]⟩
abbrev aat:bD:=⟨[(4,.aL 4 0),(6,.aL 6 0)],[(4,.aB [.int .i64,.own 90101]),(6,.aB [.int .i64,.own 90201]),(90101,.sl .int 2),(90201,.sl .int 2)],[]⟩
abbrev aau:aa Lm:=[.int .i64,.int .i64,.int .i64,.int .i64,.int .i64,.own 1000000000115005,.int .i64,.int .i64]
abbrev aav:bD:=⟨[(0,.lf (.aG .int 0)),(3,.lf (.own 10)),(12,tI),(13,tI)],[(10,.sl .int 2)],[]⟩
abbrev aaw:bD:=⟨[(1,.aL 1 0),(2,.aL 2 0),(4,.lf (.own 1000000000117000)),(5,.aL 5 0)],Ta,[]⟩
abbrev aax:bD:=⟨[(0,tI),(1,.lf (.aG .eK 0)),(9,.lf (.aG .eK 0)),(10,tI),(11,tI)],[],[]⟩
abbrev aay:aa (Nat×Rm):=[(3,.st .eC),(6,.aB gQ),(8,.aB B3),(81,.sl .bool 2),(142,.sl .Command 2),(146,.sl .bool 2)]
abbrev vP:aa (Bool×TC):=[(true,.eC)]
abbrev Hg:bD:=⟨[(5,tI)],[],[]⟩
abbrev aaz:bD:=⟨[(0,.lf (.aG .iV 0)),(7,.lf (.aG .iV 0)),(8,tI),(9,tI)],[],[]⟩
abbrev ye:aa (Bool×TC):=[(true,.fO)]
abbrev aaA:aa (Nat×Tm):=[(2,.aL 20000 50),(12,tI),(75,.lf (.own 1000000000175000)),(76,tI),(77,tI)]
abbrev Te:aa (Nat×Rm):=[(98000,.sl .Addr 1000002)]
abbrev aaB:bD:=⟨[(0,.lf (.own 98000)),(5,tI)],Te,[]⟩
abbrev Hh:aa (Nat×Rm):=[(1,.st .eC),(3,.aB gQ)]
abbrev aaC:bD:=⟨[(1,.aL 1 0),(3,.aL 3 0)],Hh,[]⟩
abbrev aaD:bD:=⟨[(1,tI),(2,tI),(8,.lf (.own 1000000000112000))],S8,[]⟩
abbrev zS:aa PK:=[.p .sk 0 0]
abbrev L4:aa (Bool×TC):=[(true,.fO),(false,.int)]
abbrev L5:aa (Bool×TC):=[(false,.int),(false,.int)]
abbrev L6:aa (Bool×TC):=[(true,.fO),(true,.sg)]
abbrev aaE:aa (Nat×Rm):=[(2,.aB gQ),(3,.aB [.int .i64,.aG .int 0])]
abbrev Tf:bD:=⟨[(2,.aL 2 0),(3,.aL 3 0),(7,tI),(8,tI)],aaE,[]⟩
abbrev Hi:aa Lm:=[.aG .int 0,.aG .int 0]
abbrev aaF:aa Lm:=[.int .i64,.int .i64,.int .i64,.int .i64,.int .i64,.own 90105,.int .i64,.int .i64]
abbrev Tg:aa (Nat×Rm):=[(3,.aB [.aG .Cell 0,.aG .int 0,.aG .int 0])]
abbrev aaG:bD:=⟨[(6,.lf (.own 1000000000112000)),(7,tB)],S8,[]⟩
abbrev aaH:aa (Nat×Rm):=[(3,.st .eC),(6,.aB gQ),(8,.aB B3),(38,.sl .bool 2)]
abbrev aaI:aa (Nat×Rm):=[(4,.st .eC),(7,.aB gQ),(8,.aB gQ),(16,.sl .bool 2)]
abbrev aaJ:bD:=⟨[(2,.aL 2 0),(3,tI)],[(2,.aB gQ)],[]⟩
abbrev aaK:bD:=⟨[(3,.lf (.own 6))],[(6,.sl .int 2)],[]⟩
abbrev aaL:aa Lm:=[.own 1000000000109000,.own 1000000000109001]
abbrev Th:aa (Bool×TC×Nat):=[(true,.eC,4),(false,.bool,0)]
abbrev Ti:aa PK:=[.p .sk 0 0,.v false .int]
abbrev Tj:aa PK:=[.p .eC 4 0,.v false .int]
abbrev Tl:aa Lm:=[.own 90100,.int .i64]
abbrev aaM:bD:=⟨[(0,tI),(3,tI)],[],[]⟩
abbrev aaN:aa Lm:=[.int .i64,.int .i64,.int .i64]
abbrev aaO:bD:=⟨[(1,.aL 1 0),(3,.aL 3 0),(4,tI)],Hh,[]⟩
abbrev aaP:aa Lm:=[.own 1000000000116000,.int .i64]
abbrev aaQ:aa Lm:=[.aG .u8 0,.int .i64,.int .i64]
def Tn(C:aa Int):aj (Bool):=some ((C.length:Int) > 1048576)
def ak2:=bS [(false,(.sl .u8))] dJ (cA Tn) 6 [] func5
abbrev aaR:=((ah×Int×Int×ah)×((aa Int)×ah))
def Hj(x:aaR):aj (aaR⊕(((ah×Int×ah)×((aa Int)×ah))⊕Empty)):=letI u1:=x.1.2.2.1;letI C:=aM (((),x.1.2.1,()),(x.2.1,()));bif u1<(x.2.1.length:Int)then bif u1<4000 then xI x.2.1 u1 λD=>xG (((),(bits .and .i64 (W6 ((W6 ((W6 (x.1.2.1*131))+(W6 D)))+7)) 1073741823),(W6 (u1+1)),()),(x.2.1,()))else C else C
def aaS:KY 32 (bw f19):=⟨0,lB 0 ⟨[(0,.lf (.own 20000)),(3,tI),(4,tI)],[(20000,.sl .u8 0)],[]⟩ [(2,⟨[(0,.lf (.own 20000)),(3,tI)],[(20000,.sl .u8 0)],[]⟩)] Hj,lp []⟩
def B5(C:aa Int):aj Int:=bR Hj (((),(W6 (97301+(C.length:Int))),0,()),(C,())) λD=>some D.1.2.1
def aaT:enters Tryz.prog 19/\K6 Tryz.prog 19 B5:=akv (N:=32) (fn:=f19) (code:=bw f19) (Φ:=(lV [])) (Λ:=(jO [(0,aaS.b)])) func19 (by kernel_rfl) (by kernel_rfl) (by kernel_rfl) (by kernel_rfl) (by kernel_rfl) (uC _ trivial) (S2 (by kernel_rfl) _ ⟨⟨_,by kernel_rfl,aaS.ok⟩,trivial⟩) (λl=>by kernel_rfl)
def zU(C:bx):aj ((Int)×(bx×ah)):=letI D:=W6 ((W6 (C.h*6364136223846793005))+1442695040888963407);letI u1:=bits .and .i64 (bits .xor .i64 (D.fdiv (2 ^ (min (33:Int).toNat IntKind.i64.bits))) (D.fdiv (2 ^ (min (45:Int).toNat IntKind.i64.bits)))) 255;bif C.i<(C.b.length:Int)then xI C.b C.i λE=>some ((bits .and .i64 (W6 (u1+(W6 E))) 255),((⟨C.b,(W6 (C.i+1)),D⟩:bx),()))else some (u1,((⟨C.b,C.i,D⟩:bx),()))
def ak3:=mG zS gq (cA zU) 58 [] func72
def eR(C:bx)(D:Int):aj ((Int)×(bx×ah)):=bif D <= 0 then some (0,(C,()))else bif D <= 256 then (zU C).bind λE=>if D=0 then none else some ((E.1.tmod D),((⟨C.b,E.2.1.i,E.2.1.h⟩:bx),()))else (zU C).bind λI=>(zU (⟨C.b,I.2.1.i,I.2.1.h⟩:bx)).bind λO=>(zU (⟨C.b,O.2.1.i,O.2.1.h⟩:bx)).bind λT=>(zU (⟨C.b,T.2.1.i,T.2.1.h⟩:bx)).bind λU=>if D=0 then none else some (((W6 ((W6 ((W6 ((W6 (I.1*16777216))+(W6 (O.1*65536))))+(W6 (T.1*256))))+U.1)).tmod D),((⟨C.b,U.2.1.i,U.2.1.h⟩:bx),()))
def qp:=mG Ti gq (dc eR) 37 [ak3] func22
def L7(C:bx):aj ((aH)×(bx×ah)):=(eR C 2).bind λD=>(eR (⟨C.b,D.2.1.i,D.2.1.h⟩:bx) 3).bind λE=>(eR (⟨C.b,E.2.1.i,E.2.1.h⟩:bx) 2).bind λI=>some ((⟨1,(W6 (1+D.1)),(W6 (2+E.1)),(W6 (1+I.1))⟩:aH),((⟨C.b,I.2.1.i,I.2.1.h⟩:bx),()))
def ak4:=mG zS [(true,.fO,0)] (cA L7) 13 [qp] func67
def aaU  : aj (cg):=some (⟨3,3,7,2,3,10,2,3,3,6,4,5,4,12,3,4,16⟩:cg)
def ak5:=bS [] [(true,.jG,0)] (xU0 aaU) 2 [] func68
def B6(D:bx)(E:Int):aj ((Bool)×(bx×ah)):=(eR D E).bind λC=>some ((C.1==0),((⟨D.b,C.2.1.i,C.2.1.h⟩:bx),()))
def L8:=mG Ti dJ (dc B6) 9 [qp] func70
def L9(C:bx):aj ((qQ)×(bx×ah)):=(eR C 3).bind λD=>(B6 (⟨C.b,D.2.1.i,D.2.1.h⟩:bx) 2).bind λE=>some ((⟨D.1,E.1⟩:qQ),((⟨C.b,E.2.1.i,E.2.1.h⟩:bx),()))
def ak6:=mG zS [(true,.ve,0)] (cA L9) 8 [qp,L8] func69
def Hl(D:bx):aj ((fo)×(bx×ah)):=(L7 D).bind λE=>(aaU).bind λC=>(L9 (⟨D.b,E.2.1.i,E.2.1.h⟩:bx)).bind λI=>(eR (⟨D.b,I.2.1.i,I.2.1.h⟩:bx) 60).bind λZ=>letI O:=W6 (200+Z.1);(eR (⟨D.b,Z.2.1.i,Z.2.1.h⟩:bx) 3).bind λT=>(eR (⟨D.b,T.2.1.i,T.2.1.h⟩:bx) 2).bind λU=>(eR (⟨D.b,U.2.1.i,U.2.1.h⟩:bx) 3).bind λY=>(B6 (⟨D.b,Y.2.1.i,Y.2.1.h⟩:bx) 3).bind λy8=>letI u1:=(⟨D.b,y8.2.1.i,y8.2.1.h⟩:bx);bif y8.1 then (eR u1 5).bind λy9=>(eR (⟨D.b,y9.2.1.i,y9.2.1.h⟩:bx) 4).bind λrN=>some ((⟨⟨(W6 (1+U.1)),E.1.aE,(W6 (4+T.1)),E.1.aR⟩,⟨C.qR,C.rp,C.jY,C.r5,C.oC,C.jZ,C.r6,C.r7,(W6 (1+rN.1)),(W6 (4+y9.1)),C.r8,C.r9,C.vc,C.tM,C.tN,C.xp,C.xs⟩,I.1,Y.1,O,16,⟨(W6 (6*O)),40⟩⟩:fo),((⟨D.b,rN.2.1.i,rN.2.1.h⟩:bx),()))else some ((⟨⟨(W6 (1+U.1)),E.1.aE,(W6 (4+T.1)),E.1.aR⟩,C,I.1,Y.1,O,16,⟨(W6 (6*O)),40⟩⟩:fo),(u1,()))
def aaV:=mG zS [(true,.Config,0)] (cA Hl) 44 [qp,ak4,ak5,ak6,L8] func20
def aaW  : aj (cK):=some (⟨0,60,8,2,6,([1,1,1,1]:aa Int),⟨20,400⟩⟩:cK)
def ak7:=bS [] [(true,.m6,2)] (xU0 aaW) 4 [] func149
def zV(D:bx)(E:aa Int):aj ((Int)×(bx×ah)):=(eR D (E.length:Int)).bind λC=>xI E C.1 λI=>some (I,((⟨D.b,C.2.1.i,C.2.1.h⟩:bx),()))
def To:=mG [.p .sk 0 0,.v false (.sl .int)] gq (dc zV) 12 [qp] func150
def Ma(C:bx):aj ((cK)×(bx×ah)):=(aaW).bind λy1=>(eR C 2).bind λI=>(zV (⟨C.b,I.2.1.i,I.2.1.h⟩:bx) ([0,10,60,200]:aa Int)).bind λO=>(eR (⟨C.b,O.2.1.i,O.2.1.h⟩:bx) 6).bind λT=>(eR (⟨C.b,T.2.1.i,T.2.1.h⟩:bx) 3).bind λD=>(eR (⟨C.b,D.2.1.i,D.2.1.h⟩:bx) 4).bind λU=>(eR (⟨C.b,U.2.1.i,U.2.1.h⟩:bx) 4).bind λE=>(eR (⟨C.b,E.2.1.i,E.2.1.h⟩:bx) 4).bind λY=>xL y1.weights E.1 λe11=>(eR (⟨C.b,Y.2.1.i,Y.2.1.h⟩:bx) 20).bind λZ=>(eR (⟨C.b,Z.2.1.i,Z.2.1.h⟩:bx) 60).bind λmH=>some ((⟨I.1,O.1,(W6 (3+T.1)),D.1,(W6 ((W6 (D.1+1))+U.1)),(y1.weights.set E.1.toNat (W6 (1+Y.1))),⟨(W6 (5+Z.1)),(W6 (60+mH.1))⟩⟩:cK),((⟨C.b,mH.2.1.i,mH.2.1.h⟩:bx),()))
def ak8:=mG zS [(true,.m6,2)] (cA Ma) 43 [qp,ak7,To] func71
def Ho(D:bx):aj ((cK)×(bx×ah)):=(Ma D).bind λC=>(eR (⟨D.b,C.2.1.i,C.2.1.h⟩:bx) 10).bind λE=>some ((⟨C.1.eX,C.1.cap,(W6 (8+E.1)),C.1.low,C.1.high,C.1.weights,C.1.dj⟩:cK),((⟨D.b,E.2.1.i,E.2.1.h⟩:bx),()))
def aaX:=mG zS [(true,.m6,2)] (cA Ho) 11 [qp,ak8] func21
def zW(C D E:Int):aj (Bool):=bif C >= D then some (C <= E)else some false
def Tp:=bS [(false,.int),(false,.int),(false,.int)] dJ (iZ zW) 15 [] func63
def D8(C:aH):aj (Bool):=(zW C.bI 1 2).bind λD=>bif D then (zW C.aE 1 4).bind λE=>bif E then (zW C.rows 2 16).bind λI=>bif I then (zW C.aR 1 8).bind λO=>some O else some false else some false else some false
def Ts:=bS ye dJ (cA D8) 21 [Tp] func35
def zX(C:aH):aj (Int):=(D8 C).bind λD=>bif (!D)then some 0 else some (W6 (C.bI*C.aE))
def Hp:=bS ye gq (cA zX) 11 [Ts] func36
def Hq(C:aH):aj (Int):=(D8 C).bind λD=>bif (!D)then some 0 else (zX C).bind λE=>some (W6 ((W6 (E*C.rows))*C.aR))
def aaY:=bS ye gq (cA Hq) 14 [Ts,Hp] func9
def Mb(C:bx)(D:aH):aj ((aQ)×(bx×ah)):=(zX D).bind λT=>(eR C T).bind λE=>(eR (⟨C.b,E.2.1.i,E.2.1.h⟩:bx) D.rows).bind λI=>(eR (⟨C.b,I.2.1.i,I.2.1.h⟩:bx) D.aR).bind λO=>some ((⟨E.1,I.1,O.1⟩:aQ),((⟨C.b,O.2.1.i,O.2.1.h⟩:bx),()))
def ak9:=mG [.p .sk 0 0,.v true .fO] [(true,.Addr,0)] (dc Mb) 18 [qp,Hp] func151
def Md(C:bx):aj ((Int)×(bx×ah)):=(eR C 4).bind λD=>letI E:=(⟨C.b,D.2.1.i,D.2.1.h⟩:bx);bif (D.1==0)then (zV E ([0,1,4294967295,2147483648,65536,305419896]:aa Int)).bind λI=>some (I.1,((⟨C.b,I.2.1.i,I.2.1.h⟩:bx),()))else bif (D.1==1)then (eR E 200).bind λO=>some (O.1,((⟨C.b,O.2.1.i,O.2.1.h⟩:bx),()))else (eR E 65536).bind λT=>(eR (⟨C.b,T.2.1.i,T.2.1.h⟩:bx) 65536).bind λU=>some ((W6 ((W6 (T.1*65536))+U.1)),((⟨C.b,U.2.1.i,U.2.1.h⟩:bx),()))
def ala:=mG zS gq (cA Md) 20 [qp,To] func200
def Me(C:bx)(Z:Int):aj ((aX)×(bx×ah)):=(eR C 60).bind λD=>(eR (⟨C.b,D.2.1.i,D.2.1.h⟩:bx) 3).bind λE=>(eR (⟨C.b,E.2.1.i,E.2.1.h⟩:bx) Z).bind λI=>(eR (⟨C.b,I.2.1.i,I.2.1.h⟩:bx) 50).bind λO=>(B6 (⟨C.b,O.2.1.i,O.2.1.h⟩:bx) 2).bind λT=>letI Y:=(⟨C.b,T.2.1.i,T.2.1.h⟩:bx);bif T.1 then (Md Y).bind λU=>some ((⟨(W6 (1+D.1)),E.1,I.1,true,U.1,O.1⟩:aX),((⟨C.b,U.2.1.i,U.2.1.h⟩:bx),()))else some ((⟨(W6 (1+D.1)),E.1,I.1,false,0,O.1⟩:aX),(Y,()))
def alb:=mG Ti [(true,.eK,0)] (dc Me) 24 [qp,L8,ala] func152
def Mf(C:bx)(D:fo)(x2:Int):aj ((jk)×(bx×ah)):=letI u3:=W6 (D.ak.rows-D.cF);(Hq D.ak).bind λy1=>if D.ak.rows=0 then none else (let T:Int -> Int -> Int -> Int -> Bool -> Int -> Int -> Int -> Int -> Int -> Int -> Int -> Int -> Int -> aj ((jk)×(bx×ah)):=λTt j19 Hr Mg j22 j23 j24 j25 j26 Tu Mh Mi Mj j31=>some ((⟨Tt,⟨j19,Hr,Mg,j22,j23,j24⟩,j25,j26,⟨Tu,Mh,Mi⟩,⟨0,0,0,0,0,[],⟨0,0⟩⟩⟩:jk),((⟨C.b,Mj,j31⟩:bx),()));(eR C 12).bind λE=>letI U:=(⟨C.b,E.2.1.i,E.2.1.h⟩:bx);(let Hu:Bool -> aj ((jk)×(bx×ah)):=λj3=>bif j3 then (zV U ([1,3,10,20,40]:aa Int)).bind λY=>(T 2 0 0 0 false 0 0 Y.1 0 0 0 0 Y.2.1.i Y.2.1.h)else bif (E.1==2)then (Mb U D.ak).bind λI=>(eR (⟨C.b,I.2.1.i,I.2.1.h⟩:bx) 11).bind λZ=>(eR (⟨C.b,Z.2.1.i,Z.2.1.h⟩:bx) 16).bind λy7=>(T 3 0 0 0 false 0 0 y7.1 Z.1 I.1.aq I.1.row I.1.bW y7.2.1.i y7.2.1.h)else bif (E.1==3)then (zV U ([4,5,6,2]:aa Int)).bind λy8=>(eR (⟨C.b,y8.2.1.i,y8.2.1.h⟩:bx) 2).bind λy9=>(zX D.ak).bind λrN=>(eR (⟨C.b,y9.2.1.i,y9.2.1.h⟩:bx) rN).bind λoZ=>(eR (⟨C.b,oZ.2.1.i,oZ.2.1.h⟩:bx) u3).bind λzY=>(Ho (⟨C.b,zY.2.1.i,zY.2.1.h⟩:bx)).bind λmH=>some ((⟨y8.1,⟨0,0,0,false,0,0⟩,y9.1,0,⟨oZ.1,zY.1,0⟩,mH.1⟩:jk),((⟨C.b,mH.2.1.i,mH.2.1.h⟩:bx),()))else (Me U (W6 ((W6 (y1.tdiv D.ak.rows))*u3))).bind λn8=>letI u2:=n8.1;(B6 (⟨C.b,n8.2.1.i,n8.2.1.h⟩:bx) 2).bind λO=>letI u1:=T 1 x2 u2.dn u2.line u2.write u2.data u2.at_ 0 0 0 0 0 O.2.1.i O.2.1.h;bif O.1 then (eR (⟨C.b,O.2.1.i,O.2.1.h⟩:bx) 3).bind λqq=>(T 1 x2 u2.dn qq.1 u2.write u2.data u2.at_ 0 0 0 0 0 qq.2.1.i qq.2.1.h)else u1;bif (E.1==0)then (Hu (E.1==0))else (Hu (E.1==1))))
def alc:=mG [.p .sk 0 0,.v true .Config,.v false .int] [(true,.Act,2)] (iZ Mf) 87 [aaY,aaX,qp,Hp,L8,To,ak9,alb] func73
def ald:enters Tryz.prog 74/\qf Tryz.prog 74 (cj Tryz.prog f74 1 []):=He (D6 1 [] func74 trivial)
def Mk(D:bx):aj ((jk)×(bx×ah)):=(Hl D).bind λI=>(eR (⟨D.b,I.2.1.i,I.2.1.h⟩:bx) 40).bind λO=>(Mf (⟨D.b,O.2.1.i,O.2.1.h⟩:bx) I.1 (W6 (1+O.1))).bind λT=>letI u1:=T.1;letI u3:=([u1.eO.eX,u1.eO.cap,u1.eO.di,u1.eO.low,u1.eO.high]:aa Int);letI E:=((⟨D.b,T.2.1.i,T.2.1.h⟩:bx),());(let C:Int -> Int -> Int -> Int -> Bool -> Int -> Int -> Int -> Int -> Int -> Int -> aj ((jk)×(bx×ah)):=λU Y Z zZ Ml Mm D9 j14 Mn Mo Mp=>bif xZ ([]:aa Int)then bif (U != 5)then some ((⟨U,⟨Y,Z,zZ,Ml,Mm,0⟩,D9,j14,⟨Mn,Mo,Mp⟩,⟨0,0,0,0,0,[],⟨0,0⟩⟩⟩:jk),E)else some ((⟨U,⟨Y,Z,zZ,Ml,Mm,0⟩,D9,j14,⟨Mn,Mo,Mp⟩,⟨0,0,0,0,0,(xA ([]:aa Int)),⟨0,0⟩⟩⟩:jk),E)else none;letI u8:=C 0 0 0 0 false 0 0 0 0 0 0;letI u6:=C u1.kind 0 0 0 false 0 0 0 u1.addr.aq u1.addr.row 0;letI u4:=C u1.kind 0 0 0 false 0 u1.n u1.J6 u1.addr.aq u1.addr.row u1.addr.bW;letI u2:=C u1.kind 0 0 0 false 0 u1.n 0 0 0 0;bif (u1.kind==1)then (let k6:ByteArray -> Int -> aj ((jk)×(bx×ah)):=λj4 j5=>(C u1.kind u1.request.id u1.request.dn u1.request.line u1.request.write j5 0 0 0 0 0);letI u7:=k6 (ByteArray.mk #[114,101,97,100]) 0;letI u5:=k6 (ByteArray.mk #[119,114,105,116,101]) u1.request.data;bif (!u1.request.write)then u7 else u5)else bif (u1.kind==2)then u2 else bif (u1.kind==4)then u2 else bif (u1.kind==3)then u4 else bif (u1.kind==6)then u6 else bif (u1.kind==5)then bif bV (u3.length+u1.eO.weights.length)then bif bV ((u3++u1.eO.weights).length+([u1.eO.dj.down,u1.eO.dj.sleep]:aa Int).length)then bif xZ u1.eO.weights then bif (u1.kind != 5)then some ((⟨u1.kind,⟨0,0,0,false,0,0⟩,0,0,⟨0,0,0⟩,⟨0,0,0,0,0,[],⟨0,0⟩⟩⟩:jk),E)else some ((⟨u1.kind,⟨0,0,0,false,0,0⟩,0,0,⟨0,0,0⟩,⟨u1.eO.eX,u1.eO.cap,u1.eO.di,u1.eO.low,u1.eO.high,(xA u1.eO.weights),u1.eO.dj⟩⟩:jk),E)else none else none else none else u8)
def ale:=mG zS [(true,.Act,2)] (cA Mk) 33 [aaV,qp,alc,⟨74,.i _,ald⟩] func23
def alf:bD:=⟨[(2,.aL 2 0),(3,.aL 3 0),(5,.aL 1000000000111000 0),(6,.aL 6 0),(7,.aL 7 0),(8,.lf (.own 16)),(9,tI)],[(2,.st .Config),(3,.aB aaF),(1000000000111000,.aB aaQ),(6,.st .Config),(7,.aB aau),(16,.sl .Act 4),(90105,.sl .int 2),(1000000000115005,.sl .int 2)],[]⟩
def alg:aa (Nat×bD):=[(2,⟨[(2,.aL 2 0),(3,.aL 3 0),(6,.aL 6 0),(7,.aL 7 0),(8,.lf (.own 16))],[(2,.st .Config),(3,.aB aaF),(6,.st .Config),(7,.aB aau),(16,.sl .Act 4),(90105,.sl .int 2),(1000000000115005,.sl .int 2)],[]⟩)]
abbrev aaZ:=((ah×ah×ah×ah×ah×ah×Int×ah)×(fo×(Int×Int×Int×Int×Int×ah×Int×Int×ah)×((aa Int)×Int×Int×ah)×fo×(Int×Int×Int×Int×Int×ah×Int×Int×ah)×(aa jk)×(aa Int)×(aa Int)×ah))
def Hv(x:aaZ):aj (aaZ⊕(((ah×ah×ah×ah×ah×ah)×(fo×(Int×Int×Int×Int×Int×ah×Int×Int×ah)×fo×(Int×Int×Int×Int×Int×ah×Int×Int×ah)×(aa jk)×(aa Int)×(aa Int)×ah))⊕Empty)):=letI C:=x.2.2.2;letI u1:=C.2.2.2;(eR (⟨C.1.1,C.1.2.1,C.1.2.2.1⟩:bx) 10).bind λE=>bif x.1.2.2.2.2.2.2.1<E.1 then (Mk (⟨C.1.1,E.2.1.i,E.2.1.h⟩:bx)).bind λD=>bif bV (u1.1.length+[D.1].length)then xG (((),(),(),(),(),(),(W6 (x.1.2.2.2.2.2.2.1+1)),()),(x.2.1,x.2.2.1,(C.1.1,D.2.1.i,D.2.1.h,()),C.2.1,C.2.2.1,(u1.1++[D.1]),u1.2.1,u1.2.2.1,()))else none else aM (((),(),(),(),(),()),(x.2.1,x.2.2.1,C.2.1,C.2.2.1,u1.1,u1.2.1,u1.2.2.1,()))
def alh:KY 31 (bw f6):=⟨0,lB 0 alf alg Hv,lp [qp,ale]⟩
def Mq(E:aa Int):aj (fo×cK×(aa jk)):=(B5 E).bind λT=>(Hl (⟨E,0,T⟩:bx)).bind λI=>(Ho (⟨E,I.2.1.i,I.2.1.h⟩:bx)).bind λC=>bR Hv (((),(),(),(),(),(),0,()),((⟨⟨0,0,0,0⟩,⟨0,0,0,0,0,0,0,0,0,0,0,0,0,0,0,0,0⟩,⟨0,false⟩,0,0,0,⟨0,0⟩⟩:fo),(0,0,0,0,0,(),0,0,()),(E,C.2.1.i,C.2.1.h,()),I.1,(C.1.eX,C.1.cap,C.1.di,C.1.low,C.1.high,(),C.1.dj.down,C.1.dj.sleep,()),([]:aa jk),([]:aa Int),C.1.weights,())) λO=>letI D:=O.2.2.2.2;letI u1:=D.1.2.2;some (O.2.2.2.1,(⟨D.1.1,D.1.2.1,u1.1,u1.2.1,u1.2.2.1,D.2.2.2.1,⟨u1.2.2.2.2.1,u1.2.2.2.2.2.1⟩⟩:cK),D.2.1)
def ali:=dg [(false,(.sl .u8))] [(true,.Config,0),(true,.m6,2),(false,(.sl .Act),4)] (cA Mq) 31 [⟨19,.n B5,aaT⟩,aaV,aaX] [alh] func6
abbrev aa0:=((ah×ah×Int×ah)×(((aa Int)×Int×Int×ah)×(aa Int)×ah))
def Hw(x:aa0):aj (aa0⊕(((ah×ah)×((aa Int)×ah))⊕Empty)):=bif x.1.2.2.1<12 then (eR (⟨x.2.1.1,x.2.1.2.1,x.2.1.2.2.1⟩:bx) 10000).bind λC=>bif bV (x.2.2.1.length+([C.1]:aa Int).length)then xG (((),(),(W6 (x.1.2.2.1+1)),()),((x.2.1.1,C.2.1.i,C.2.1.h,()),(x.2.2.1++([C.1]:aa Int)),()))else none else aM (((),()),(x.2.2.1,()))
def alj:KY 19 (bw f7):=⟨0,lB 0 ⟨[(3,.aL 1000000000107000 0),(4,.lf (.own 8)),(5,tI)],[(1000000000107000,.aB aaQ),(8,.sl .int 2)],[]⟩ [(2,⟨[(4,.lf (.own 8))],[(8,.sl .int 2)],[]⟩)] Hw,lp [qp]⟩
def Mr(C:aa Int):aj ((aa Int)):=(B5 C).bind λD=>bR Hw (((),(),0,()),((C,0,D,()),([]:aa Int),())) λE=>some E.2.1
def alk:=dg [(false,(.sl .u8))] vO (cA Mr) 19 [⟨19,.n B5,aaT⟩] [alj] func7
def bZ(C D E:Int):aj (Bool):=bif C >= D then some (C <= E)else some false
def dO:=bS [(false,.int),(false,.int),(false,.int)] dJ (iZ bZ) 15 [] func45
def nA(C:aH):aj (Bool):=(bZ C.bI 1 2).bind λD=>bif D then (bZ C.aE 1 4).bind λE=>bif E then (bZ C.rows 2 16).bind λI=>bif I then (bZ C.aR 1 8).bind λO=>some O else some false else some false else some false
def qt:=bS ye dJ (cA nA) 21 [dO] func78
def jP(C:aH):aj (Int):=(nA C).bind λD=>bif (!D)then some 0 else some (W6 (C.bI*C.aE))
def lW:=bS ye gq (cA jP) 11 [qt] func31
abbrev aa1:=((Int×ah×ah×ah×Int×Int×ah)×((Int×Int×Int×Int×ah)×(Int×ah×ah)×(Int×ah×ah)×(aa Int)×(aa Int)×ah))
def Ea(x:aa1):aj (aa1⊕(((Int×ah×ah×ah×Int×ah)×((Int×Int×Int×Int×ah)×(Int×ah×ah)×(Int×ah×ah)×(aa Int)×(aa Int)×ah))⊕Empty)):=letI u1:=x.2.2.2;letI C:=x.1.2.2.2.2;bif C.2.1<(W6 (x.2.1.2.2.1-x.1.1))then bif bV (u1.2.2.1.length+([C.2.1]:aa Int).length)then xG ((x.1.1,(),(),(),C.1,(W6 (C.2.1+1)),()),(x.2.1,x.2.2.1,u1.1,u1.2.1,(u1.2.2.1++([C.2.1]:aa Int)),()))else none else aM ((x.1.1,(),(),(),C.1,()),(x.2.1,x.2.2.1,u1.1,u1.2.1,u1.2.2.1,()))
def alm:KY 48 (yc (bw f29) 0):=⟨2,lB 2 ⟨[(1,tI),(2,.aL 2 0),(4,.aL 4 0),(6,.aL 6 0),(7,tI),(8,tI)],aam,[]⟩ [(4,S9)] Ea,lp []⟩
abbrev aa2:=((Int×ah×ah×ah×Int×ah)×((Int×Int×Int×Int×ah)×(Int×ah×ah)×(Int×ah×ah)×(aa Int)×(aa Int)×ah))
def Hx(x:aa2):aj (aa2⊕(((ah×ah×ah)×((Int×ah×ah)×(Int×ah×ah)×(aa Int)×(aa Int)×ah))⊕Empty)):=letI D:=x.2.2.2;(jP (⟨x.2.1.1,x.2.1.2.1,x.2.1.2.2.1,x.2.1.2.2.2.1⟩:aH)).bind λE=>bif x.1.2.2.2.2.1<E then bR Ea ((x.1.1,(),(),(),x.1.2.2.2.2.1,0,()),(x.2.1,x.2.2.1,D.1,D.2.1,D.2.2.1,())) λC=>xG ((C.1.1,(),(),(),(W6 (C.1.2.2.2.2.1+1)),()),(C.2.1,C.2.2.1,C.2.2.2.1,C.2.2.2.2.1,C.2.2.2.2.2.1,()))else aM (((),(),()),(x.2.2.1,D.1,D.2.1,D.2.2.1,()))
def aln:KY 48 (bw f29):=⟨0,lB 0 S9 [(2,aat)] Hx,lq [lW] [alm]⟩
def Eb(C:aH)(D:Int):aj (dL×Bool):=letI E:=some ((⟨0,[]⟩:dL),false);(nA C).bind λO=>bif (!O)then E else (bZ D 0 2).bind λT=>bif (!T)then E else bif (W6 (C.rows-D))<2 then E else bR Hx ((D,(),(),(),0,()),((C.bI,C.aE,C.rows,C.aR,()),(0,(),()),(D,(),()),([]:aa Int),([]:aa Int),())) λI=>some ((⟨I.2.2.1.1,I.2.2.2.2.1⟩:dL),true)
def Tv:=dg L4 [(true,.sg,2),(false,.bool,0)] (dc Eb) 48 [dO,qt] [aln] func29
abbrev aa3:=((ah×ah×Int×Int×ah)×(cg×(aa Int)×ah))
def Ec(x:aa3):aj (aa3⊕(((Bool×ah)×(ah))⊕(((ah×ah)×(cg×ah))⊕Empty))):=letI C:=x.1.2.2;bif C.2.1<C.1 then xL x.2.2.1 C.2.1 λD=>(bZ D 1 64).bind λE=>bif (!E)then aM ((false,()),())else xG (((),(),C.1,(W6 (C.2.1+1)),()),(x.2.1,x.2.2.1,()))else bF (((),()),(x.2.1,()))
def alo:KY 75 (bw f121):=⟨0,lB 0 ⟨[(1,.aL 1 0),(39,.lf (.own 39)),(40,tI),(41,tI)],[(1,.st .jG),(39,.sl .int 2)],[]⟩ [(1,uE),(2,⟨[(1,.aL 1 0)],[(1,.st .jG)],[]⟩)] Ec,lp [dO]⟩
def B7(C:cg):aj (Bool):=letI D:=([C.qR,C.rp,C.jY,C.r5,C.oC,C.jZ,C.r6,C.r7,C.mW,C.wr,C.r8,C.r9,C.vc,C.tM,C.tN,C.xp,C.xs]:aa Int);cY Ec (((),(),(D.length:Int),0,()),(C,D,())) (λE=>some E.1.1) λI=>letI u1:=I.2.1;bif u1.qR <= u1.jY then bif u1.r5 <= u1.oC then bif u1.r6 <= u1.r7 then some (u1.r8 <= u1.r9)else some false else some false else some false
def Ms:=dg [(true,.jG)] dJ (cA B7) 75 [] [alo] func121
def Hy(C:qQ):aj (Bool):=(bZ C.order 0 2).bind λD=>some D
def aa4:=bS [(true,.ve)] dJ (cA Hy) 6 [dO] func153
def B8(C:cg):aj (Int):=(B7 C).bind λD=>bif (!D)then some 0 else some (W6 (2*(W6 ((W6 ((W6 ((W6 ((W6 ((W6 ((W6 ((W6 ((W6 (C.tN+C.xp))+C.jY))+C.wr))+C.mW))+C.rp))+C.tM))+C.qR))+(W6 (8*C.oC))))+16))))
def alp:=bS [(true,.jG)] gq (cA B8) 35 [Ms] func154
def Mt(C:fo):aj (Bool):=(Eb C.ak C.cF).bind λD=>(nA C.ak).bind λE=>bif E then (B7 C.bQ).bind λI=>bif I then (Hy C.mapping).bind λO=>bif O then bif D.2 then (B8 C.bQ).bind λT=>(bZ C.interval T 10000).bind λU=>bif U then (bZ C.ij 1 16).bind λY=>bif Y then (bZ C.dS.bu (W6 (6*C.interval)) 100000).bind λZ=>bif Z then (bZ C.dS.bg 0 100000).bind λy9=>some y9 else some false else some false else some false else some false else some false else some false else some false
def alq:=bS [(true,.Config)] dJ (cA Mt) 57 [Tv,dO,qt,Ms,aa4,alp] func75
abbrev aa5:=(((aa dD)×(aa dD)×Int×Int×ah)×(ah))
def Hz(x:aa5):aj (aa5⊕(((Bool×ah)×(ah))⊕((((aa dD)×ah)×(ah))⊕Empty))):=letI C:=x.1.2.2;bif C.2.1<C.1 then xI x.1.2.1 C.2.1 λD=>(bZ D.weight 1 9).bind λE=>bif (!E)then aM ((false,()),())else (bZ D.fI 0 D.weight).bind λI=>bif (!I)then aM ((false,()),())else xG ((x.1.1,x.1.2.1,C.1,(W6 (C.2.1+1)),()),())else bF ((x.1.1,()),())
def alr:KY 27 (bw f81):=⟨0,lB 0 ⟨[(0,.lf (.aG .iM 0)),(5,.lf (.aG .iM 0)),(6,tI),(7,tI)],[],[]⟩ [(1,uE),(2,⟨[(0,.lf (.aG .iM 0))],[],[]⟩)] Hz,lp [dO]⟩
def Ed(C:aa dD):aj (Bool):=cY Hz ((C,C,(C.length:Int),0,()),()) (λD=>some D.1.1) λE=>(bZ (E.1.1.length:Int) 1 4).bind λI=>some I
def Tw:=dg [(false,(.sl .iM))] dJ (cA Ed) 27 [dO] [alr] func81
abbrev aa6:=((ah×(aa Int)×Int×Int×ah)×((aa dD)×ah))
def HA(x:aa6):aj (aa6⊕(((ah×ah)×((aa dD)×ah))⊕Empty)):=letI u1:=x.1.2.2;bif u1.2.1<u1.1 then xI x.1.2.1 u1.2.1 λC=>letI D:=([(⟨C,C⟩:dD)]:aa dD);bif bV (x.2.1.length+D.length)then xG (((),x.1.2.1,u1.1,(W6 (u1.2.1+1)),()),((x.2.1++D),()))else none else aM (((),()),(x.2.1,()))
def als:KY 25 (bw f32):=⟨0,lB 0 ⟨[(4,.lf (.own 7)),(8,.lf (.aG .int 0)),(9,tI),(10,tI)],[(7,.sl .iM 2)],[]⟩ [(2,⟨[(4,.lf (.own 7))],[(7,.sl .iM 2)],[]⟩)] HA,lp []⟩
def yf(C:aa Int):aj ((aa dD)×Bool):=bR HA (((),C,(C.length:Int),0,()),(([]:aa dD),())) λD=>(Ed D.2.1).bind λE=>bif (!E)then some ([],false)else some (D.2.1,true)
def Tx:=dg zR [(false,(.sl .iM),2),(false,.bool,0)] (cA yf) 25 [Tw] [als] func32
def B9(C:mX):aj (Bool):=bif C.low >= 0 then bif C.low<C.high then some (C.high <= 12)else some false else some false
def Mv:=bS [(true,.tP)] dJ (cA B9) 18 [] func103
def HB(C:wI):aj (Bool):=(bZ C.down 1 10000).bind λD=>bif D then bif C.sleep > C.down then some (C.sleep <= 20000)else some false else some false
def aa7:=bS [(true,.wK)] dJ (cA HB) 18 [dO] func155
def HC(C:cK):aj (Bool):=(yf C.weights).bind λE=>letI D:=(bZ C.cap 0 100000).bind λI=>bif I then (bZ C.di 3 1000).bind λO=>bif O then (B9 (⟨false,C.low,C.high⟩:mX)).bind λT=>bif T then bif ((C.weights.length:Int)==4)then bif E.2 then (HB C.dj).bind λU=>some U else some false else some false else some false else some false else some false;bif (C.eX==0)then D else bif (C.eX==1)then D else some false
def aa8:=bS [(true,.m6)] dJ (cA HC) 51 [Tx,dO,Mv,aa7] func76
def z0(C:Int):aj (Int):=(bZ C 3 1000).bind λD=>bif (!D)then some 0 else some (W6 ((W6 (2*C))+2))
def alu:=bS sX gq (cA z0) 9 [dO] func77
def sY(C:fo)(D:cK):aj (Bool):=letI E:=W6 (C.bQ.jY+C.bQ.rp);(Mt C).bind λI=>bif I then (HC D).bind λO=>bif O then (z0 D.di).bind λT=>bif (W6 (T+2)) <= C.dS.bg then if E=0 then none else some ((W6 ((W6 (C.ij+1))*D.di)) > (W6 ((W6 ((W6 (5*C.interval)).tdiv E))+2)))else some false else some false else some false
def aa9:=bS [(true,.Config),(true,.m6)] dJ (dc sY) 42 [alq,aa8,alu] func24
end Go.Proofs.YtpigmalhjkekiaaGreat
