/-
  Functions of the program as plain functions of contents, and that the code computes them. Nothing here is a claim.
-/
import Derived.Test.YtpigmalhjkekiaaGreatVZ
import Derived.Test.YtpigmalhjkekiaaGreatRows
namespace Go.Proofs.YtpigmalhjkekiaaGreat
set_option linter.defProp false
open Go.RowKit Go.Proofs.Tryz
set_option linter.unusedVariables false
set_option maxRecDepth 100000
abbrev KX:=KC Tryz.prog
abbrev KY:=BK Tryz.prog
abbrev ia:aa Lm:=[.int .i64,.int .i64,.int .i64,.int .i64]
abbrev zz1:aa (Nat×Rm):=[(1,.st .dV),(3,.az [.int .i64,.int .i64,.int .i64,.int .i64,.int .i64,.int .i64,.int .i64,.int .i64,.int .i64,.int .i64,.int .i64,.int .i64,.int .i64,.int .i64,.int .i64,.int .i64,.int .i64,.int .i64,.int .i64,.int .i64,.int .i64,.int .i64,.bool,.int .i64,.int .i64,.int .i64,.int .i64,.int .i64,.int .i64,.int .i64,.int .i64,.int .i64,.int .i64,.own 1000000000109005,.int .i64,.int .i64,.int .i64,.int .i64,.int .i64,.int .i64,.int .i64,.own 1000000000109013,.int .i64,.int .i64,.bool,.int .i64,.own 1000000000113000,.int .i64,.own 1000000000117000,.own 1000000000117001,.own 1000000000121000,.own 1000000000121001,.own 1000000000121002,.int .i64,.own 1000000000126000,.own 1000000000131000,.int .i64,.bool,.own 33,.aH .int 0,.aH .Addr 0,.aH .ez 0,.aH .gW 0,.bool,.int .i64,.int .i64,.int .i64,.int .i64,.int .i64,.int .i64,.int .i64,.int .i64,.aH .iG 0,.aH .Event 0,.aH .oF 0]),(1000000000109005,.sl .int 2),(1000000000109013,.sl .int 2),(1000000000113000,.sl .p9 2),(1000000000117000,.sl .int 2),(1000000000117001,.sl .int 2),(1000000000121000,.sl .Cell 4),(1000000000121001,.sl .int 4),(1000000000121002,.sl .int 4),(1000000000126000,.sl .int 2),(1000000000131000,.sl .int 2),(33,.sl .mh 4)]
abbrev cG:aa (Bool×TC×Nat):=[(false,.bool,0)]
abbrev IB:aa Nat:=[90133,90141,90146,90148,90149,90150,90151,90152,90154,90155,90158,90159,90160,90161,90162,90172,90173,90174]
abbrev zz3:aa Gp:=[(4,.dV,4,IB),(5,.dV,4,[1000000000108033,1000000000108041,1000000000108046,1000000000108048,1000000000108049,1000000000108050,1000000000108051,1000000000108052,1000000000108054,1000000000108055,1000000000108058,1000000000108059,1000000000108060,1000000000108061,1000000000108062,1000000000108072,1000000000108073,1000000000108074])]
abbrev zz4:aa Gp:=[(6,.dV,4,IB),(8,.dV,4,[1000000000118033,1000000000118041,1000000000118046,1000000000118048,1000000000118049,1000000000118050,1000000000118051,1000000000118052,1000000000118054,1000000000118055,1000000000118058,1000000000118059,1000000000118060,1000000000118061,1000000000118062,1000000000118072,1000000000118073,1000000000118074])]
abbrev fV:aa (Bool×TC×Nat):=[(false,.int,0)]
abbrev zz6:aa Gp:=[(4,.dV,4,IB),(6,.dV,4,[1000000000137005,1000000000137013,1000000000119000,1000000000122000,1000000000122001,1000000000125000,1000000000125001,1000000000125002,1000000000146001,1000000000154000,90258,90259,90260,90261,90262,90272,90273,90274])]
abbrev AV:aa Gp:=[(20000,.dV,4,[60033,60041,60046,60048,60049,60050,60051,60052,60054,60055,60058,60059,60060,60061,60062,60072,60073,60074])]
abbrev Vt:bG:=⟨[],[],AV⟩
abbrev IC:aa Lm:=[.own 90100,.own 90101,.own 90102]
abbrev zz8:aa (Nat×Rm):=[(6,.az IC),(7,.az [.own 1000000000110000,.own 1000000000110001,.own 1000000000110002]),(90100,.sl .Cell 4),(90101,.sl .int 2),(90102,.sl .int 2),(1000000000110000,.sl .Cell 4),(1000000000110001,.sl .int 4),(1000000000110002,.sl .int 4)]
abbrev acE:aa Gp:=[(20000,.dV,4,[102000033,102000041,102000046,102000048,102000049,102000050,102000051,102000052,102000054,102000055,102000058,102000059,102000060,102000061,102000062,102000072,102000073,102000074])]
abbrev ID:aa (Nat×Rm):=[(3,.az [.aH .Cell 0,.aH .int 0,.aH .int 0])]
abbrev acG:aa (Nat×Rm):=[(2,.az IC),(3,.az [.own 90200,.own 6,.own 10]),(90100,.sl .Cell 4),(90101,.sl .int 2),(90102,.sl .int 2),(90200,.sl .Cell 4),(6,.sl .int 2),(10,.sl .int 2)]
abbrev IE:aa Lm:=[.aH .int 0,.int .i64,.bool]
abbrev acH:aa (Nat×Rm):=[(2,.az IE),(4,.az [.own 90100,.int .i64,.bool]),(5,.az [.own 1000000000108000,.int .i64,.bool]),(90100,.sl .int 2),(1000000000108000,.sl .int 2)]
abbrev vB:aa (Bool×TC×Nat):=[(false,(.sl .int),2)]
abbrev zc:aa Lm:=[.int .i64,.int .i64,.int .i64,.int .i64,.int .i64,.aH .int 0,.int .i64,.int .i64]
abbrev NK:aa Lm:=[.int .i64,.own 90101]
abbrev acI:aa (Nat×Rm):=[(2,.az ia),(4,.az NK),(6,.az [.int .i64,.own 90201]),(90101,.sl .int 2),(90201,.sl .int 2)]
abbrev Vu:bG:=⟨[(1,tI),(2,.aG 2 0),(4,.aG 4 0),(6,.aG 6 0),(7,tI)],acI,[]⟩
abbrev lV:bG:=⟨[(4,tB)],[],[]⟩
abbrev oU:bG:=⟨[(2,tB)],[],[]⟩
abbrev acJ:aa (Nat×Rm):=[(1,.az ia),(2,.az IC),(3,.az [.own 90200,.own 90201,.own 90202]),(90100,.sl .Cell 4),(90101,.sl .int 2),(90102,.sl .int 2),(90200,.sl .Cell 4),(90201,.sl .int 2),(90202,.sl .int 2)]
abbrev Vv:aa (Nat×Rm):=[(1,.st .dV),(2,.az ia),(1000000000117000,.sl .int 2),(5,.az ia)]
abbrev ny:aa (Bool×TC):=[(false,.int)]
abbrev zd:bG:=⟨[(4,tI)],[],[]⟩
abbrev acK:aa Gp:=[(20000,.dV,4,[60033,60041,60046,60048,60049,60050,60051,60052,60054,60055,60058,60059,1000000000141000,60061,60062,60072,60073,60074])]
abbrev Vw:aa (Nat×Rm):=[(1000000000112000,.sl .iG 2)]
abbrev acL:bG:=⟨[(1,tI),(2,tI),(8,.lf (.own 1000000000112000)),(30,.lf (.own 1000000000112000)),(31,tI),(32,tI)],Vw,[]⟩
abbrev acM:aa Gp:=[(2,.dV,4,IB)]
abbrev EX:aa (Bool×TC):=[(false,(.sl .int)),(false,.int)]
abbrev acN:aa Lm:=[.int .i64,.int .i64,.int .i64,.bool,.int .i64,.int .i64]
abbrev acO:bG:=⟨[(0,tI),(1,.lf (.aH .ez 0)),(5,.aG 5 0),(8,tI)],[(5,.az acN)],[]⟩
abbrev acQ:aa (Nat×Rm):=[(2,.az [.own 90100,.own 90101]),(3,.az [.own 13,.own 90201]),(90100,.sl .int 2),(90101,.sl .int 2),(13,.sl .int 2),(90201,.sl .int 2)]
abbrev ze:aa (Bool×TC):=[(false,(.sl .int))]
abbrev NL:aa Lm:=[.aH .p9 0,.int .i64]
abbrev Vx:aa (Nat×Rm):=[(3,.az NL),(1000000000115000,.sl .int 2)]
abbrev iW:bG:=⟨[],[],[]⟩
abbrev acS:bG:=⟨[(4,.aG 4 0),(6,.aG 6 0)],[(4,.az NK),(6,.az [.int .i64,.own 90201]),(90101,.sl .int 2),(90201,.sl .int 2)],[]⟩
abbrev ua:aa (Bool×TC):=[(true,.gf)]
abbrev IF:aa (Bool×TC×Nat):=[(true,.dV,4),(false,.bool,0)]
abbrev acT:aa Lm:=[.int .i64,.int .i64,.int .i64,.int .i64,.int .i64,.own 1000000000115005,.int .i64,.int .i64]
abbrev acU:bG:=⟨[(0,.lf (.aH .int 0)),(3,.lf (.own 10)),(12,tI),(13,tI)],[(10,.sl .int 2)],[]⟩
abbrev acV:bG:=⟨[(1,.aG 1 0),(2,.aG 2 0),(4,.lf (.own 1000000000117000)),(5,.aG 5 0)],Vv,[]⟩
abbrev Vy:aa (Bool×TC):=[(true,.gf),(true,.r3),(false,.int),(false,.int)]
abbrev acW:bG:=⟨[(0,tI),(1,.lf (.aH .ez 0)),(9,.lf (.aH .ez 0)),(10,tI),(11,tI)],[],[]⟩
abbrev acX:aa (Nat×Rm):=[(3,.st .dV),(6,.az ia),(8,.az zc),(81,.sl .bool 2),(142,.sl .Command 2),(146,.sl .bool 2)]
abbrev wQ:aa (Bool×TC):=[(true,.dV)]
abbrev IG:aa (Bool×TC):=[(true,.gf),(false,.int)]
abbrev II:aa (Bool×TC):=[(false,.int),(false,.int)]
abbrev IJ:bG:=⟨[(5,tI)],[],[]⟩
abbrev acY:bG:=⟨[(0,.lf (.aH .iG 0)),(7,.lf (.aH .iG 0)),(8,tI),(9,tI)],[],[]⟩
abbrev acZ:aa (Nat×Tm):=[(2,.aG 20000 50),(12,tI),(75,.lf (.own 1000000000175000)),(76,tI),(77,tI)]
abbrev ac0:aa Gp:=[(4,.dV,4,IB),(7,.dV,4,[1000000000133005,1000000000133013,1000000000120000,1000000000122000,1000000000122001,1000000000124000,1000000000124001,1000000000124002,1000000000141001,1000000000150000,90258,90259,90260,90261,1000000000157000,90272,90273,90274])]
abbrev Vz:aa Lm:=[.int .i64,.aH .int 0]
abbrev VA:bG:=⟨[(2,.aG 2 0),(3,.aG 3 0),(7,tI),(8,tI)],[(2,.az ia),(3,.az Vz)],[]⟩
abbrev CX:aa Lm:=[.aH .int 0,.aH .int 0]
abbrev VB:aa (Nat×Rm):=[(1,.az [.aH .int 0,.aH .int 0,.int .i64])]
abbrev ac1:aa Lm:=[.int .i64,.int .i64,.int .i64,.int .i64,.int .i64,.own 90105,.int .i64,.int .i64]
abbrev NM:aa (Bool×TC×Nat):=[(true,.s9,2),(false,.bool,0)]
abbrev NN:aa (Bool×TC×Nat):=[(true,.Addr,0),(false,.bool,0)]
abbrev VC:aa (Nat×Rm):=[(98000,.sl .Addr 1000002)]
abbrev ac2:bG:=⟨[(0,.lf (.own 98000)),(5,tI)],VC,[]⟩
abbrev ac3:bG:=⟨[(1,tI),(2,tI),(8,.lf (.own 1000000000112000))],Vw,[]⟩
abbrev AX:aa PK:=[.p .ta 0 0]
abbrev NO:aa (Bool×TC):=[(true,.gf),(true,.r3)]
abbrev NP:aa (Bool×TC):=[(true,.Config),(true,.nT)]
abbrev NQ:aa (Bool×TC):=[(true,.gf),(true,.Addr)]
abbrev VD:aa Lm:=[.int .i64,.int .i64,.int .i64]
abbrev ac4:bG:=⟨[(0,.lf (.aH .int 0)),(1,tI),(5,tI)],[],[]⟩
abbrev VE:aa (Bool×TC):=[(false,(.sl .Addr)),(true,.Addr)]
abbrev ac5:aa (Nat×Rm):=[(3,.st .dV),(6,.az ia),(8,.az zc),(38,.sl .bool 2)]
abbrev ac6:aa (Nat×Rm):=[(4,.st .dV),(7,.az ia),(8,.az ia),(16,.sl .bool 2)]
abbrev ac7:bG:=⟨[(2,.aG 2 0),(3,tI)],[(2,.az ia)],[]⟩
abbrev ac8:bG:=⟨[(3,.lf (.own 6))],[(6,.sl .int 2)],[]⟩
abbrev VF:aa (Nat×Rm):=[(1,.st .dV),(3,.az ia)]
abbrev VG:bG:=⟨[(6,tI)],[],[]⟩
abbrev VH:aa PK:=[.p .ta 0 0,.v false .int]
abbrev VI:aa PK:=[.p .dV 4 0,.v false .int]
abbrev ac9:bG:=⟨[(6,.lf (.own 1000000000112000)),(7,tB)],Vw,[]⟩
abbrev ada:bG:=⟨[(0,.lf (.aH .int 0)),(1,tI)],[],[]⟩
abbrev EY:aa (Bool×TC):=[(true,.nT)]
abbrev adb:bG:=⟨[(1,.aG 1 0)],[(1,.st .mW)],[]⟩
abbrev ade:bG:=⟨[(3,.aG 3 0)],[(3,.az CX)],[]⟩
abbrev adf:bG:=⟨[(1,.aG 1 0)],[(1,.az IE)],[]⟩
abbrev VJ:aa (Bool×TC):=[(true,.dV),(false,.int)]
abbrev adg:bG:=⟨[(1,.aG 1 0),(3,tI)],VB,[]⟩
abbrev adh:bG:=⟨[(0,.lf (.aH .gW 0))],[],[]⟩
abbrev adi:aa (Bool×TC):=[(false,(.sl .iG)),(false,.int),(false,.int)]
abbrev adj:aa PK:=[.p .dV 4 0,.v false .int,.v false .int]
abbrev IK:aa (Bool×TC):=[(true,.mW)]
abbrev adk:aa Lm:=[.int .i64,.own 1000000000136001]
abbrev adl:bG:=⟨[(0,tI),(3,tI)],[],[]⟩
abbrev adm:aa Lm:=[.aH .u8 0,.int .i64,.int .i64]
abbrev adn:aa (Nat×Tm):=[(1,.aG 1 0),(2,.aG 2 0),(3,.aG 3 0)]
abbrev ado:bG:=⟨[(3,.aG 3 0)],ID,[]⟩
abbrev VK:aa Lm:=[.int .i64,.own 15]
def VL(C:aa Int):aj (Bool):=some ((C.length:Int) > 1048576)
def anO:=bD [(false,(.sl .u8))] cG (bP VL) 6 [] func5
abbrev adp:=((ah×Int×Int×ah)×((aa Int)×ah))
def IL(x:adp):aj (adp⊕(((ah×Int×ah)×((aa Int)×ah))⊕Empty)):=letI u1:=x.1.2.2.1;letI C:=aE (((),x.1.2.1,()),(x.2.1,()));bif u1<(x.2.1.length:Int)then bif u1<4000 then xI x.2.1 u1 λD=>xG (((),(bits .and .i64 (W6 ((W6 ((W6 (x.1.2.1*131))+(W6 D)))+7)) 1073741823),(W6 (u1+1)),()),(x.2.1,()))else C else C
def adq:KY 32 (bx f19):=⟨0,lB 0 ⟨[(0,.lf (.own 20000)),(3,tI),(4,tI)],[(20000,.sl .u8 0)],[]⟩ [(2,⟨[(0,.lf (.own 20000)),(3,tI)],[(20000,.sl .u8 0)],[]⟩)] IL,lp []⟩
def CY(C:aa Int):aj Int:=bR IL (((),(W6 (97301+(C.length:Int))),0,()),(C,())) λD=>some D.1.2.1
def adr:enters Tryz.prog 19/\ML Tryz.prog 19 CY:=anh (N:=32) (fn:=f19) (code:=bx f19) (Φ:=(mE [])) (Λ:=(jW [(0,adq.b)])) func19 (by kernel_rfl) (by kernel_rfl) (by kernel_rfl) (by kernel_rfl) (by kernel_rfl) (vw _ trivial) (Vp (by kernel_rfl) _ ⟨⟨_,by kernel_rfl,adq.ok⟩,trivial⟩) (λl=>by kernel_rfl)
def AY(C:bC):aj ((Int)×(bC×ah)):=letI D:=W6 ((W6 (C.h*6364136223846793005))+1442695040888963407);letI u1:=bits .and .i64 (bits .xor .i64 (D.fdiv (2 ^ (min (33:Int).toNat IntKind.i64.bits))) (D.fdiv (2 ^ (min (45:Int).toNat IntKind.i64.bits)))) 255;bif C.i<(C.b.length:Int)then xI C.b C.i λE=>some ((bits .and .i64 (W6 (u1+(W6 E))) 255),((⟨C.b,(W6 (C.i+1)),D⟩:bC),()))else some (u1,((⟨C.b,C.i,D⟩:bC),()))
def anP:=nu AX fV (bP AY) 58 [] func72
def ff(C:bC)(D:Int):aj ((Int)×(bC×ah)):=bif D <= 0 then some (0,(C,()))else bif D <= 256 then (AY C).bind λE=>if D=0 then none else some ((E.1.tmod D),((⟨C.b,E.2.1.i,E.2.1.h⟩:bC),()))else (AY C).bind λI=>(AY (⟨C.b,I.2.1.i,I.2.1.h⟩:bC)).bind λO=>(AY (⟨C.b,O.2.1.i,O.2.1.h⟩:bC)).bind λT=>(AY (⟨C.b,T.2.1.i,T.2.1.h⟩:bC)).bind λU=>if D=0 then none else some (((W6 ((W6 ((W6 ((W6 (I.1*16777216))+(W6 (O.1*65536))))+(W6 (T.1*256))))+U.1)).tmod D),((⟨C.b,U.2.1.i,U.2.1.h⟩:bC),()))
def rB:=nu VH fV (cF ff) 37 [anP] func22
def NR(C:bC):aj ((aF)×(bC×ah)):=(ff C 2).bind λD=>(ff (⟨C.b,D.2.1.i,D.2.1.h⟩:bC) 3).bind λE=>(ff (⟨C.b,E.2.1.i,E.2.1.h⟩:bC) 2).bind λI=>some ((⟨1,(W6 (1+D.1)),(W6 (2+E.1)),(W6 (1+I.1))⟩:aF),((⟨C.b,I.2.1.i,I.2.1.h⟩:bC),()))
def anQ:=nu AX [(true,.gf,0)] (bP NR) 13 [rB] func67
def ads  : aj (c8):=some (⟨3,3,7,2,3,10,2,3,3,6,4,5,4,12,3,4,16⟩:c8)
def anR:=bD [] [(true,.mW,0)] (xU0 ads) 2 [] func68
def CZ(D:bC)(E:Int):aj ((Bool)×(bC×ah)):=(ff D E).bind λC=>some ((C.1==0),((⟨D.b,C.2.1.i,C.2.1.h⟩:bC),()))
def NS:=nu VH cG (cF CZ) 9 [rB] func70
def NT(C:bC):aj ((nR)×(bC×ah)):=(ff C 3).bind λD=>(CZ (⟨C.b,D.2.1.i,D.2.1.h⟩:bC) 2).bind λE=>some ((⟨D.1,E.1⟩:nR),((⟨C.b,E.2.1.i,E.2.1.h⟩:bC),()))
def anS:=nu AX [(true,.s7,0)] (bP NT) 8 [rB,NS] func69
def IM(D:bC):aj ((eo)×(bC×ah)):=(NR D).bind λE=>(ads).bind λC=>(NT (⟨D.b,E.2.1.i,E.2.1.h⟩:bC)).bind λI=>(ff (⟨D.b,I.2.1.i,I.2.1.h⟩:bC) 60).bind λZ=>letI O:=W6 (200+Z.1);(ff (⟨D.b,Z.2.1.i,Z.2.1.h⟩:bC) 3).bind λT=>(ff (⟨D.b,T.2.1.i,T.2.1.h⟩:bC) 2).bind λU=>(ff (⟨D.b,U.2.1.i,U.2.1.h⟩:bC) 3).bind λY=>(CZ (⟨D.b,Y.2.1.i,Y.2.1.h⟩:bC) 3).bind λy8=>letI u1:=(⟨D.b,y8.2.1.i,y8.2.1.h⟩:bC);bif y8.1 then (ff u1 5).bind λy9=>(ff (⟨D.b,y9.2.1.i,y9.2.1.h⟩:bC) 4).bind λod=>some ((⟨⟨(W6 (1+U.1)),E.1.aI,(W6 (4+T.1)),E.1.aQ⟩,⟨C.p7,C.rp,C.ji,C.rV,C.nS,C.mg,C.rW,C.rX,(W6 (1+od.1)),(W6 (4+y9.1)),C.rY,C.rZ,C.v5,C.sY,C.sZ,C.xp,C.xs⟩,I.1,Y.1,O,16,⟨(W6 (6*O)),40⟩⟩:eo),((⟨D.b,od.2.1.i,od.2.1.h⟩:bC),()))else some ((⟨⟨(W6 (1+U.1)),E.1.aI,(W6 (4+T.1)),E.1.aQ⟩,C,I.1,Y.1,O,16,⟨(W6 (6*O)),40⟩⟩:eo),(u1,()))
def adt:=nu AX [(true,.Config,0)] (bP IM) 44 [rB,anQ,anR,anS,NS] func20
def adu  : aj (cR):=some (⟨0,60,8,2,6,([1,1,1,1]:aa Int),⟨20,400⟩⟩:cR)
def anT:=bD [] [(true,.nT,2)] (xU0 adu) 4 [] func149
def AZ(D:bC)(E:aa Int):aj ((Int)×(bC×ah)):=(ff D (E.length:Int)).bind λC=>xI E C.1 λI=>some (I,((⟨D.b,C.2.1.i,C.2.1.h⟩:bC),()))
def VM:=nu [.p .ta 0 0,.v false (.sl .int)] fV (cF AZ) 12 [rB] func150
def NU(C:bC):aj ((cR)×(bC×ah)):=(adu).bind λy1=>(ff C 2).bind λI=>(AZ (⟨C.b,I.2.1.i,I.2.1.h⟩:bC) ([0,10,60,200]:aa Int)).bind λO=>(ff (⟨C.b,O.2.1.i,O.2.1.h⟩:bC) 6).bind λT=>(ff (⟨C.b,T.2.1.i,T.2.1.h⟩:bC) 3).bind λD=>(ff (⟨C.b,D.2.1.i,D.2.1.h⟩:bC) 4).bind λU=>(ff (⟨C.b,U.2.1.i,U.2.1.h⟩:bC) 4).bind λE=>(ff (⟨C.b,E.2.1.i,E.2.1.h⟩:bC) 4).bind λY=>xL y1.weights E.1 λe11=>(ff (⟨C.b,Y.2.1.i,Y.2.1.h⟩:bC) 20).bind λZ=>(ff (⟨C.b,Z.2.1.i,Z.2.1.h⟩:bC) 60).bind λlW=>some ((⟨I.1,O.1,(W6 (3+T.1)),D.1,(W6 ((W6 (D.1+1))+U.1)),(y1.weights.set E.1.toNat (W6 (1+Y.1))),⟨(W6 (5+Z.1)),(W6 (60+lW.1))⟩⟩:cR),((⟨C.b,lW.2.1.i,lW.2.1.h⟩:bC),()))
def anU:=nu AX [(true,.nT,2)] (bP NU) 43 [rB,anT,VM] func71
def IN(D:bC):aj ((cR)×(bC×ah)):=(NU D).bind λC=>(ff (⟨D.b,C.2.1.i,C.2.1.h⟩:bC) 10).bind λE=>some ((⟨C.1.eK,C.1.cap,(W6 (8+E.1)),C.1.low,C.1.high,C.1.weights,C.1.cZ⟩:cR),((⟨D.b,E.2.1.i,E.2.1.h⟩:bC),()))
def adw:=nu AX [(true,.nT,2)] (bP IN) 11 [rB,anU] func21
def dD(C D E:Int):aj (Bool):=bif C >= D then some (C <= E)else some false
def gO:=bD [(false,.int),(false,.int),(false,.int)] cG (iV dD) 15 [] func63
def vC(C:aF):aj (Bool):=(dD C.cm 1 2).bind λD=>bif D then (dD C.aI 1 4).bind λE=>bif E then (dD C.rows 2 16).bind λI=>bif I then (dD C.aQ 1 8).bind λO=>some O else some false else some false else some false
def A0:=bD ua cG (bP vC) 21 [gO] func35
def mF(C:aF):aj (Int):=(vC C).bind λD=>bif (!D)then some 0 else some (W6 (C.cm*C.aI))
def oV:=bD ua fV (bP mF) 11 [A0] func36
def vD(C:aF):aj (Int):=(vC C).bind λD=>bif (!D)then some 0 else (mF C).bind λE=>some (W6 ((W6 (E*C.rows))*C.aQ))
def C0:=bD ua fV (bP vD) 14 [A0,oV] func9
def NV(C:bC)(D:aF):aj ((aO)×(bC×ah)):=(mF D).bind λT=>(ff C T).bind λE=>(ff (⟨C.b,E.2.1.i,E.2.1.h⟩:bC) D.rows).bind λI=>(ff (⟨C.b,I.2.1.i,I.2.1.h⟩:bC) D.aQ).bind λO=>some ((⟨E.1,I.1,O.1⟩:aO),((⟨C.b,O.2.1.i,O.2.1.h⟩:bC),()))
def anV:=nu [.p .ta 0 0,.v true .gf] [(true,.Addr,0)] (cF NV) 18 [rB,oV] func151
def NW(C:bC):aj ((Int)×(bC×ah)):=(ff C 4).bind λD=>letI E:=(⟨C.b,D.2.1.i,D.2.1.h⟩:bC);bif (D.1==0)then (AZ E ([0,1,4294967295,2147483648,65536,305419896]:aa Int)).bind λI=>some (I.1,((⟨C.b,I.2.1.i,I.2.1.h⟩:bC),()))else bif (D.1==1)then (ff E 200).bind λO=>some (O.1,((⟨C.b,O.2.1.i,O.2.1.h⟩:bC),()))else (ff E 65536).bind λT=>(ff (⟨C.b,T.2.1.i,T.2.1.h⟩:bC) 65536).bind λU=>some ((W6 ((W6 (T.1*65536))+U.1)),((⟨C.b,U.2.1.i,U.2.1.h⟩:bC),()))
def anW:=nu AX fV (bP NW) 20 [rB,VM] func200
def NX(C:bC)(Z:Int):aj ((aU)×(bC×ah)):=(ff C 60).bind λD=>(ff (⟨C.b,D.2.1.i,D.2.1.h⟩:bC) 3).bind λE=>(ff (⟨C.b,E.2.1.i,E.2.1.h⟩:bC) Z).bind λI=>(ff (⟨C.b,I.2.1.i,I.2.1.h⟩:bC) 50).bind λO=>(CZ (⟨C.b,O.2.1.i,O.2.1.h⟩:bC) 2).bind λT=>letI Y:=(⟨C.b,T.2.1.i,T.2.1.h⟩:bC);bif T.1 then (NW Y).bind λU=>some ((⟨(W6 (1+D.1)),E.1,I.1,true,U.1,O.1⟩:aU),((⟨C.b,U.2.1.i,U.2.1.h⟩:bC),()))else some ((⟨(W6 (1+D.1)),E.1,I.1,false,0,O.1⟩:aU),(Y,()))
def anX:=nu VH [(true,.ez,0)] (cF NX) 24 [rB,NS,anW] func152
def NY(C:bC)(D:eo)(x2:Int):aj ((fY)×(bC×ah)):=letI u3:=W6 (D.ak.rows-D.bL);(vD D.ak).bind λy1=>if D.ak.rows=0 then none else (let T:Int -> Int -> Int -> Int -> Bool -> Int -> Int -> Int -> Int -> Int -> Int -> Int -> Int -> Int -> aj ((fY)×(bC×ah)):=λVN j19 IP NZ j22 j23 j24 j25 j26 VO N0 N1 N2 j31=>some ((⟨VN,⟨j19,IP,NZ,j22,j23,j24⟩,j25,j26,⟨VO,N0,N1⟩,⟨0,0,0,0,0,[],⟨0,0⟩⟩⟩:fY),((⟨C.b,N2,j31⟩:bC),()));(ff C 12).bind λE=>letI U:=(⟨C.b,E.2.1.i,E.2.1.h⟩:bC);(let IQ:Bool -> aj ((fY)×(bC×ah)):=λj3=>bif j3 then (AZ U ([1,3,10,20,40]:aa Int)).bind λY=>(T 2 0 0 0 false 0 0 Y.1 0 0 0 0 Y.2.1.i Y.2.1.h)else bif (E.1==2)then (NV U D.ak).bind λI=>(ff (⟨C.b,I.2.1.i,I.2.1.h⟩:bC) 11).bind λZ=>(ff (⟨C.b,Z.2.1.i,Z.2.1.h⟩:bC) 16).bind λy7=>(T 3 0 0 0 false 0 0 y7.1 Z.1 I.1.ay I.1.row I.1.bZ y7.2.1.i y7.2.1.h)else bif (E.1==3)then (AZ U ([4,5,6,2]:aa Int)).bind λy8=>(ff (⟨C.b,y8.2.1.i,y8.2.1.h⟩:bC) 2).bind λy9=>(mF D.ak).bind λod=>(ff (⟨C.b,y9.2.1.i,y9.2.1.h⟩:bC) od).bind λjX=>(ff (⟨C.b,jX.2.1.i,jX.2.1.h⟩:bC) u3).bind λoW=>(IN (⟨C.b,oW.2.1.i,oW.2.1.h⟩:bC)).bind λlW=>some ((⟨y8.1,⟨0,0,0,false,0,0⟩,y9.1,0,⟨jX.1,oW.1,0⟩,lW.1⟩:fY),((⟨C.b,lW.2.1.i,lW.2.1.h⟩:bC),()))else (NX U (W6 ((W6 (y1.tdiv D.ak.rows))*u3))).bind λlA=>letI u2:=lA.1;(CZ (⟨C.b,lA.2.1.i,lA.2.1.h⟩:bC) 2).bind λO=>letI u1:=T 1 x2 u2.eG u2.line u2.write u2.data u2.at_ 0 0 0 0 0 O.2.1.i O.2.1.h;bif O.1 then (ff (⟨C.b,O.2.1.i,O.2.1.h⟩:bC) 3).bind λmG=>(T 1 x2 u2.eG mG.1 u2.write u2.data u2.at_ 0 0 0 0 0 mG.2.1.i mG.2.1.h)else u1;bif (E.1==0)then (IQ (E.1==0))else (IQ (E.1==1))))
def anY:=nu [.p .ta 0 0,.v true .Config,.v false .int] [(true,.Act,2)] (iV NY) 87 [C0,adw,rB,oV,NS,VM,anV,anX] func73
def anZ:enters Tryz.prog 74/\ri Tryz.prog 74 (cj Tryz.prog f74 1 []):=Iz (EW 1 [] func74 trivial)
def N3(D:bC):aj ((fY)×(bC×ah)):=(IM D).bind λI=>(ff (⟨D.b,I.2.1.i,I.2.1.h⟩:bC) 40).bind λO=>(NY (⟨D.b,O.2.1.i,O.2.1.h⟩:bC) I.1 (W6 (1+O.1))).bind λT=>letI u1:=T.1;letI u3:=([u1.eD.eK,u1.eD.cap,u1.eD.dn,u1.eD.low,u1.eD.high]:aa Int);letI E:=((⟨D.b,T.2.1.i,T.2.1.h⟩:bC),());(let C:Int -> Int -> Int -> Int -> Bool -> Int -> Int -> Int -> Int -> Int -> Int -> aj ((fY)×(bC×ah)):=λU Y Z A1 N4 N5 EZ j14 N6 N7 N8=>bif xZ ([]:aa Int)then bif (U != 5)then some ((⟨U,⟨Y,Z,A1,N4,N5,0⟩,EZ,j14,⟨N6,N7,N8⟩,⟨0,0,0,0,0,[],⟨0,0⟩⟩⟩:fY),E)else some ((⟨U,⟨Y,Z,A1,N4,N5,0⟩,EZ,j14,⟨N6,N7,N8⟩,⟨0,0,0,0,0,(xA ([]:aa Int)),⟨0,0⟩⟩⟩:fY),E)else none;letI u8:=C 0 0 0 0 false 0 0 0 0 0 0;letI u6:=C u1.kind 0 0 0 false 0 0 0 u1.addr.ay u1.addr.row 0;letI u4:=C u1.kind 0 0 0 false 0 u1.n u1.xO u1.addr.ay u1.addr.row u1.addr.bZ;letI u2:=C u1.kind 0 0 0 false 0 u1.n 0 0 0 0;bif (u1.kind==1)then (let k6:ByteArray -> Int -> aj ((fY)×(bC×ah)):=λj4 j5=>(C u1.kind u1.request.id u1.request.eG u1.request.line u1.request.write j5 0 0 0 0 0);letI u7:=k6 (ByteArray.mk #[114,101,97,100]) 0;letI u5:=k6 (ByteArray.mk #[119,114,105,116,101]) u1.request.data;bif (!u1.request.write)then u7 else u5)else bif (u1.kind==2)then u2 else bif (u1.kind==4)then u2 else bif (u1.kind==3)then u4 else bif (u1.kind==6)then u6 else bif (u1.kind==5)then bif bX (u3.length+u1.eD.weights.length)then bif bX ((u3++u1.eD.weights).length+([u1.eD.cZ.down,u1.eD.cZ.sleep]:aa Int).length)then bif xZ u1.eD.weights then bif (u1.kind != 5)then some ((⟨u1.kind,⟨0,0,0,false,0,0⟩,0,0,⟨0,0,0⟩,⟨0,0,0,0,0,[],⟨0,0⟩⟩⟩:fY),E)else some ((⟨u1.kind,⟨0,0,0,false,0,0⟩,0,0,⟨0,0,0⟩,⟨u1.eD.eK,u1.eD.cap,u1.eD.dn,u1.eD.low,u1.eD.high,(xA u1.eD.weights),u1.eD.cZ⟩⟩:fY),E)else none else none else none else u8)
def an0:=nu AX [(true,.Act,2)] (bP N3) 33 [adt,rB,anY,⟨74,.i _,anZ⟩] func23
def an1:bG:=⟨[(2,.aG 2 0),(3,.aG 3 0),(5,.aG 1000000000111000 0),(6,.aG 6 0),(7,.aG 7 0),(8,.lf (.own 16)),(9,tI)],[(2,.st .Config),(3,.az ac1),(1000000000111000,.az adm),(6,.st .Config),(7,.az acT),(16,.sl .Act 4),(90105,.sl .int 2),(1000000000115005,.sl .int 2)],[]⟩
def an2:aa (Nat×bG):=[(2,⟨[(2,.aG 2 0),(3,.aG 3 0),(6,.aG 6 0),(7,.aG 7 0),(8,.lf (.own 16))],[(2,.st .Config),(3,.az ac1),(6,.st .Config),(7,.az acT),(16,.sl .Act 4),(90105,.sl .int 2),(1000000000115005,.sl .int 2)],[]⟩)]
abbrev adx:=((ah×ah×ah×ah×ah×ah×Int×ah)×(eo×(Int×Int×Int×Int×Int×ah×Int×Int×ah)×((aa Int)×Int×Int×ah)×eo×(Int×Int×Int×Int×Int×ah×Int×Int×ah)×(aa fY)×(aa Int)×(aa Int)×ah))
def IS(x:adx):aj (adx⊕(((ah×ah×ah×ah×ah×ah)×(eo×(Int×Int×Int×Int×Int×ah×Int×Int×ah)×eo×(Int×Int×Int×Int×Int×ah×Int×Int×ah)×(aa fY)×(aa Int)×(aa Int)×ah))⊕Empty)):=letI C:=x.2.2.2;letI u1:=C.2.2.2;(ff (⟨C.1.1,C.1.2.1,C.1.2.2.1⟩:bC) 10).bind λE=>bif x.1.2.2.2.2.2.2.1<E.1 then (N3 (⟨C.1.1,E.2.1.i,E.2.1.h⟩:bC)).bind λD=>bif bX (u1.1.length+[D.1].length)then xG (((),(),(),(),(),(),(W6 (x.1.2.2.2.2.2.2.1+1)),()),(x.2.1,x.2.2.1,(C.1.1,D.2.1.i,D.2.1.h,()),C.2.1,C.2.2.1,(u1.1++[D.1]),u1.2.1,u1.2.2.1,()))else none else aE (((),(),(),(),(),()),(x.2.1,x.2.2.1,C.2.1,C.2.2.1,u1.1,u1.2.1,u1.2.2.1,()))
def an3:KY 31 (bx f6):=⟨0,lB 0 an1 an2 IS,lp [rB,an0]⟩
def N9(E:aa Int):aj (eo×cR×(aa fY)):=(CY E).bind λT=>(IM (⟨E,0,T⟩:bC)).bind λI=>(IN (⟨E,I.2.1.i,I.2.1.h⟩:bC)).bind λC=>bR IS (((),(),(),(),(),(),0,()),((⟨⟨0,0,0,0⟩,⟨0,0,0,0,0,0,0,0,0,0,0,0,0,0,0,0,0⟩,⟨0,false⟩,0,0,0,⟨0,0⟩⟩:eo),(0,0,0,0,0,(),0,0,()),(E,C.2.1.i,C.2.1.h,()),I.1,(C.1.eK,C.1.cap,C.1.dn,C.1.low,C.1.high,(),C.1.cZ.down,C.1.cZ.sleep,()),([]:aa fY),([]:aa Int),C.1.weights,())) λO=>letI D:=O.2.2.2.2;letI u1:=D.1.2.2;some (O.2.2.2.1,(⟨D.1.1,D.1.2.1,u1.1,u1.2.1,u1.2.2.1,D.2.2.2.1,⟨u1.2.2.2.2.1,u1.2.2.2.2.2.1⟩⟩:cR),D.2.1)
def an4:=cM [(false,(.sl .u8))] [(true,.Config,0),(true,.nT,2),(false,(.sl .Act),4)] (bP N9) 31 [⟨19,.n CY,adr⟩,adt,adw] [an3] func6
abbrev ady:=((ah×ah×Int×ah)×(((aa Int)×Int×Int×ah)×(aa Int)×ah))
def IT(x:ady):aj (ady⊕(((ah×ah)×((aa Int)×ah))⊕Empty)):=bif x.1.2.2.1<12 then (ff (⟨x.2.1.1,x.2.1.2.1,x.2.1.2.2.1⟩:bC) 10000).bind λC=>bif bX (x.2.2.1.length+([C.1]:aa Int).length)then xG (((),(),(W6 (x.1.2.2.1+1)),()),((x.2.1.1,C.2.1.i,C.2.1.h,()),(x.2.2.1++([C.1]:aa Int)),()))else none else aE (((),()),(x.2.2.1,()))
def an5:KY 19 (bx f7):=⟨0,lB 0 ⟨[(3,.aG 1000000000107000 0),(4,.lf (.own 8)),(5,tI)],[(1000000000107000,.az adm),(8,.sl .int 2)],[]⟩ [(2,⟨[(4,.lf (.own 8))],[(8,.sl .int 2)],[]⟩)] IT,lp [rB]⟩
def Oa(C:aa Int):aj ((aa Int)):=(CY C).bind λD=>bR IT (((),(),0,()),((C,0,D,()),([]:aa Int),())) λE=>some E.2.1
def an6:=cM [(false,(.sl .u8))] vB (bP Oa) 19 [⟨19,.n CY,adr⟩] [an5] func7
abbrev adz:=((Int×ah×ah×ah×Int×ah)×((Int×Int×Int×Int×ah)×(Int×ah×ah)×(Int×ah×ah)×(aa Int)×(aa Int)×ah))
def IU(x:adz):aj (adz⊕(((ah×ah×ah)×((Int×ah×ah)×(Int×ah×ah)×(aa Int)×(aa Int)×ah))⊕Empty)):=letI u2:=x.2.2.2;letI u1:=x.1.2.2.2.2.1;letI C:=W6 (x.2.1.2.2.1-x.1.1);letI u3:=([(u1.tmod C)]:aa Int);(mF (⟨x.2.1.1,x.2.1.2.1,x.2.1.2.2.1,x.2.1.2.2.2.1⟩:aF)).bind λD=>bif u1<(W6 (D*C))then if C=0 then none else bif bX (u2.2.2.1.length+u3.length)then xG ((x.1.1,(),(),(),(W6 (u1+1)),()),(x.2.1,x.2.2.1,u2.1,u2.2.1,(u2.2.2.1++u3),()))else none else aE (((),(),()),(x.2.2.1,u2.1,u2.2.1,u2.2.2.1,()))
def an7:KY 49 (bx f57):=⟨0,lB 0 Vu [(2,acS)] IU,lp [oV]⟩
def E0(C:aF)(D:Int):aj (eP×Bool):=letI E:=some ((⟨0,[]⟩:eP),false);(vC C).bind λO=>bif (!O)then E else (dD D 0 2).bind λT=>bif (!T)then E else bif (W6 (C.rows-D))<2 then E else bR IU ((D,(),(),(),0,()),((C.cm,C.aI,C.rows,C.aQ,()),(0,(),()),(D,(),()),([]:aa Int),([]:aa Int),())) λI=>some ((⟨I.2.2.1.1,I.2.2.2.2.1⟩:eP),true)
def VP:=cM IG [(true,.r3,2),(false,.bool,0)] (cF E0) 49 [A0,gO] [an7] func57
abbrev adA:=(((aa Int)×Int×Int×ah)×(ah))
def IV(x:adA):aj (adA⊕(((Bool×ah)×(ah))⊕(((ah)×(ah))⊕Empty))):=bif x.1.2.2.1<(x.1.1.length:Int)then xI x.1.1 x.1.2.2.1 λC=>bif (C==x.1.2.1)then aE ((true,()),())else xG ((x.1.1,x.1.2.1,(W6 (x.1.2.2.1+1)),()),())else bk ((),())
def an8:KY 18 (bx f83):=⟨0,lB 0 ac4 [(1,lV),(2,iW)] IV,lp []⟩
def Ob(C:aa Int)(D:Int):aj (Bool):=bY IV ((C,D,0,()),()) (λE=>some E.1.1) λI=>some false
def an9:=cM EX cG (cF Ob) 18 [] [an8] func83
abbrev adB:=((ah×ah×Int×Int×ah)×((Int×Int×Int×Int×ah)×(Int×(aa Int)×ah)×ah))
def IW(x:adB):aj (adB⊕(((Bool×ah)×(ah))⊕(((ah)×(ah))⊕Empty))):=letI u3:=x.2.2.1.2.1;letI C:=x.1.2.2;letI u4:=C.2.1;letI u2:=xG (((),(),C.1,(W6 (u4+1)),()),(x.2.1,x.2.2.1,()));letI u1:=W6 ((W6 (u4.tdiv C.1))*C.1);bif u4<(u3.length:Int)then xI u3 u4 λD=>if C.1=0 then none else bif (D==(u4.tmod C.1))then u2 else xI u3 u4 λE=>(dD E C.1 (W6 (x.2.1.2.2.1-1))).bind λI=>bif (!I)then aE ((false,()),())else if C.1=0 then none else if 0 <= u1/\u1 <= u4/\u4 <= (u3.length:Int)then xI u3 u4 λO=>(Ob ((u3.take u4.toNat).drop u1.toNat) O).bind λT=>bif T then aE ((false,()),())else u2 else none else bk ((),())
def aoa:KY 77 (bx f37):=⟨0,lB 0 VA [(1,lV),(2,iW)] IW,lp [gO,an9]⟩
def IX(C:aF)(D:eP):aj (Bool):=letI E:=W6 (C.rows-D.bL);(E0 C D.bL).bind λI=>bif (!I.2)then some false else (mF C).bind λO=>bif ((D.map.length:Int) != (W6 (O*E)))then some false else bY IW (((),(),E,0,()),((C.cm,C.aI,C.rows,C.aQ,()),(D.bL,D.map,()),())) (λT=>some T.1.1) λU=>some true
def adC:=cM NO cG (cF IX) 77 [oV,VP] [aoa] func37
def E1(C:aF)(D:eP):aj (aF):=(IX C D).bind λE=>bif (!E)then some (⟨0,0,0,0⟩:aF)else some (⟨C.cm,C.aI,(W6 (C.rows-D.bL)),C.aQ⟩:aF)
def VQ:=bD NO [(true,.gf,0)] (cF E1) 17 [adC] func10
def VR(C:c8):aj ((aa Int)):=some ([C.p7,C.rp,C.ji,C.rV,C.nS,C.mg,C.rW,C.rX,C.mV,C.wr,C.rY,C.rZ,C.v5,C.sY,C.sZ,C.xp,C.xs]:aa Int)
def aob:=bD IK vB (bP VR) 38 [] func236
abbrev adD:=((ah×ah×Int×ah)×(c8×(aa Int)×ah))
def E2(x:adD):aj (adD⊕(((Bool×ah)×(ah))⊕(((ah×ah)×(c8×ah))⊕Empty))):=bif x.1.2.2.1<(x.2.2.1.length:Int)then xL x.2.2.1 x.1.2.2.1 λC=>(dD C 1 64).bind λD=>bif (!D)then aE ((false,()),())else xG (((),(),(W6 (x.1.2.2.1+1)),()),(x.2.1,x.2.2.1,()))else bk (((),()),(x.2.1,()))
def aoc:KY 45 (bx f184):=⟨0,lB 0 ⟨[(1,.aG 1 0),(3,.lf (.own 1000000000106000)),(4,tI)],[(1,.st .mW),(1000000000106000,.sl .int 2)],[]⟩ [(1,oU),(2,adb)] E2,lp [gO]⟩
def IY(D:c8):aj (Bool):=(VR D).bind λE=>bY E2 (((),(),0,()),(D,E,())) (λI=>some I.1.1) λO=>letI C:=O.2.1;bif C.p7 <= C.ji then bif C.rV <= C.nS then bif C.rW <= C.rX then some (C.rY <= C.rZ)else some false else some false else some false
def adE:=cM IK cG (bP IY) 45 [aob] [aoc] func184
def E3(C:nR):aj (Bool):=(dD C.order 0 2).bind λD=>some D
def adF:=bD [(true,.s7)] cG (bP E3) 6 [gO] func185
def IZ(C:c8):aj (Int):=(IY C).bind λD=>bif (!D)then some 0 else some (W6 (2*(W6 ((W6 ((W6 ((W6 ((W6 ((W6 ((W6 ((W6 ((W6 (C.sZ+C.xp))+C.ji))+C.wr))+C.mV))+C.rp))+C.sY))+C.p7))+(W6 (8*C.nS))))+16))))
def aod:=bD IK fV (bP IZ) 35 [adE] func186
def Oc(C:eo):aj (Bool):=(E0 C.ak C.bL).bind λD=>bif (!D.2)then some false else (IY C.bQ).bind λE=>bif (!E)then some false else (E3 C.mapping).bind λI=>bif (!I)then some false else (IZ C.bQ).bind λO=>(dD C.interval O 10000).bind λT=>bif (!T)then some false else (dD C.gV 1 16).bind λU=>bif U then (dD C.di.bh (W6 (6*C.interval)) 100000).bind λY=>bif Y then (dD C.di.aY 0 100000).bind λZ=>some Z else some false else some false
def aoe:=bD [(true,.Config)] cG (bP Oc) 54 [VP,gO,adE,adF,aod] func127
abbrev adG:=(((aa cQ)×Int×ah)×(ah))
def I0(x:adG):aj (adG⊕(((Bool×ah)×(ah))⊕((((aa cQ)×ah)×(ah))⊕Empty))):=letI C:=x.1.2.1;bif C<(x.1.1.length:Int)then xI x.1.1 C λD=>(dD D.weight 1 9).bind λE=>bif (!E)then aE ((false,()),())else xI x.1.1 C λI=>xI x.1.1 C λO=>(dD I.fP 0 O.weight).bind λT=>bif (!T)then aE ((false,()),())else xG ((x.1.1,(W6 (C+1)),()),())else bk ((x.1.1,()),())
def aof:KY 34 (bx f132):=⟨0,lB 0 ⟨[(0,.lf (.aH .gW 0)),(3,tI)],[],[]⟩ [(1,oU),(2,adh)] I0,lp [gO]⟩
def I1(C:aa cQ):aj (Bool):=bY I0 ((C,0,()),()) (λD=>some D.1.1) λE=>(dD (E.1.1.length:Int) 1 4).bind λI=>some I
def adH:=cM [(false,(.sl .gW))] cG (bP I1) 34 [gO] [aof] func132
abbrev adJ:=(((aa Int)×ah×Int×ah)×((aa cQ)×ah))
def I2(x:adJ):aj (adJ⊕(((ah×ah)×((aa cQ)×ah))⊕Empty)):=letI u2:=aE (((),()),(x.2.1,()));letI C:=x.1.2.2.1;bif C<(x.1.1.length:Int)then bif C <= 4 then xI x.1.1 C λD=>xI x.1.1 C λE=>letI u1:=([(⟨D,E⟩:cQ)]:aa cQ);bif bX (x.2.1.length+u1.length)then xG ((x.1.1,(),(W6 (C+1)),()),((x.2.1++u1),()))else none else u2 else u2
def aog:KY 34 (bx f60):=⟨0,lB 0 ⟨[(0,.lf (.aH .int 0)),(4,.lf (.own 6)),(5,tI)],[(6,.sl .gW 2)],[]⟩ [(2,⟨[(4,.lf (.own 6))],[(6,.sl .gW 2)],[]⟩)] I2,lp []⟩
def I3(D:aa Int):aj ((aa cQ)×Bool):=bR I2 ((D,(),0,()),(([]:aa cQ),())) λC=>(I1 C.2.1).bind λE=>bif (!E)then some (([]:aa cQ),false)else some (C.2.1,true)
def adK:=cM ze [(false,(.sl .gW),2),(false,.bool,0)] (bP I3) 34 [adH] [aog] func60
def I4(C:lM):aj (Bool):=bif C.low >= 0 then bif C.high <= 12 then some (C.low<C.high)else some false else some false
def adL:=bD [(true,.s8)] cG (bP I4) 18 [] func139
def Od(C:uK):aj (Bool):=(dD C.down 1 10000).bind λD=>bif D then bif C.sleep > C.down then some (C.sleep <= 20000)else some false else some false
def aoh:=bD [(true,.v7)] cG (bP Od) 18 [gO] func187
def I5(C:cR):aj (Bool):=(I3 C.weights).bind λD=>(dD C.eK 0 1).bind λE=>bif E then (dD C.cap 0 100000).bind λI=>bif I then (dD C.dn 3 1000).bind λO=>bif O then (I4 (⟨false,C.low,C.high⟩:lM)).bind λT=>bif T then bif D.2 then bif ((C.weights.length:Int)==4)then (Od C.cZ).bind λU=>some U else some false else some false else some false else some false else some false else some false
def adM:=bD EY cG (bP I5) 46 [adK,gO,adL,aoh] func128
def Oe(C:Int):aj (Int):=(dD C 3 1000).bind λD=>bif (!D)then some 0 else some (W6 ((W6 (2*C))+2))
def aoi:=bD ny fV (bP Oe) 9 [gO] func129
end Go.Proofs.YtpigmalhjkekiaaGreat
