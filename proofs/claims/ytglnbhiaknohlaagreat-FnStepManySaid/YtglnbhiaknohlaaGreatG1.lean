/-
  Functions of the program as plain functions of contents, and that the code computes them. Nothing here is a claim.
-/
import Derived.Test.YtglnbhiaknohlaaGreatVZ
import Derived.Test.YtglnbhiaknohlaaGreatRows
namespace Go.Proofs.YtglnbhiaknohlaaGreat
open Go.RowKit Go.Proofs.Tryz
set_option linter.unusedVariables false
set_option maxRecDepth 100000
abbrev KX:=KC Tryz.prog
abbrev KY:=BK Tryz.prog
abbrev lC:aa Gp:=[(20000,.cO,4,[60033,60041,60046,60048,60049,60050,60051,60052,60054,60055,60058,60059,60060,60061,60062,60072,60073,60074])]
abbrev cm:aa (Bool×TC×Nat):=[(false,.bool,0)]
abbrev zz2:aa (Nat×Rm):=[(1,.st .cO),(3,.aB [.int .i64,.int .i64,.int .i64,.int .i64,.int .i64,.int .i64,.int .i64,.int .i64,.int .i64,.int .i64,.int .i64,.int .i64,.int .i64,.int .i64,.int .i64,.int .i64,.int .i64,.int .i64,.int .i64,.int .i64,.int .i64,.int .i64,.bool,.int .i64,.int .i64,.int .i64,.int .i64,.int .i64,.int .i64,.int .i64,.int .i64,.int .i64,.int .i64,.own 1000000000109005,.int .i64,.int .i64,.int .i64,.int .i64,.int .i64,.int .i64,.int .i64,.own 1000000000109013,.int .i64,.int .i64,.bool,.int .i64,.own 1000000000113000,.int .i64,.own 1000000000117000,.own 1000000000117001,.own 1000000000121000,.own 1000000000121001,.own 1000000000121002,.int .i64,.own 1000000000126000,.own 1000000000131000,.int .i64,.bool,.own 33,.aD .int 0,.aD .Addr 0,.aD .di 0,.aD .fF 0,.bool,.int .i64,.int .i64,.int .i64,.int .i64,.int .i64,.int .i64,.int .i64,.int .i64,.aD .fN 0,.aD .Event 0,.aD .lP 0]),(1000000000109005,.sl .int 2),(1000000000109013,.sl .int 2),(1000000000113000,.sl .kr 2),(1000000000117000,.sl .int 2),(1000000000117001,.sl .int 2),(1000000000121000,.sl .Cell 4),(1000000000121001,.sl .int 4),(1000000000121002,.sl .int 4),(1000000000126000,.sl .int 2),(1000000000131000,.sl .int 2),(33,.sl .gD 4)]
abbrev zz3:aa (Nat×Rm):=[(1,.aB [.int .i64,.int .i64,.int .i64,.int .i64,.int .i64,.int .i64,.int .i64,.int .i64,.int .i64,.int .i64,.int .i64,.int .i64,.int .i64,.int .i64,.int .i64,.int .i64,.int .i64,.int .i64,.int .i64,.int .i64,.int .i64,.int .i64,.bool,.int .i64,.int .i64,.int .i64,.int .i64,.int .i64,.int .i64,.int .i64,.int .i64,.int .i64,.int .i64,.own 1000000000107005,.int .i64,.int .i64,.int .i64,.int .i64,.int .i64,.int .i64,.int .i64,.own 1000000000107013,.int .i64,.int .i64,.bool,.int .i64,.own 1000000000111000,.int .i64,.own 1000000000115000,.own 1000000000115001,.own 1000000000119000,.own 1000000000119001,.own 1000000000119002,.int .i64,.own 1000000000123001,.own 1000000000127000,.int .i64,.bool,.aD .gD 0,.aD .int 0,.aD .Addr 0,.aD .di 0,.aD .fF 0,.bool,.int .i64,.int .i64,.int .i64,.int .i64,.int .i64,.int .i64,.int .i64,.int .i64,.aD .fN 0,.aD .Event 0,.aD .lP 0]),(29,.sl .gD 4),(1000000000107005,.sl .int 2),(1000000000107013,.sl .int 2),(1000000000111000,.sl .kr 2),(1000000000115000,.sl .int 2),(1000000000115001,.sl .int 2),(1000000000119000,.sl .Cell 4),(1000000000119001,.sl .int 4),(1000000000119002,.sl .int 4),(1000000000123001,.sl .int 2),(1000000000127000,.sl .int 2)]
abbrev OG:aa Gp:=[(20000,.cO,4,[102000033,102000041,102000046,102000048,102000049,102000050,102000051,102000052,102000054,102000055,102000058,102000059,102000060,102000061,102000062,102000072,102000073,102000074])]
abbrev zL:aa Lm:=[.int .i64,.int .i64,.int .i64,.int .i64,.int .i64,.aD .int 0,.int .i64,.int .i64]
abbrev dN:aa (Bool×TC×Nat):=[(false,.int,0)]
abbrev ia:bJ:=⟨[(4,tB)],[],[]⟩
abbrev OH:aa Nat:=[90133,90141,90146,90148,90149,90150,90151,90152,90154,90155,90158,90159,90160,90161,90162,90172,90173,90174]
abbrev zz8:aa Gp:=[(6,.cO,4,OH),(8,.cO,4,[1000000000115033,1000000000115041,1000000000115046,1000000000115048,1000000000115049,1000000000115050,1000000000115051,1000000000115052,1000000000115054,1000000000115055,1000000000115058,1000000000115059,1000000000115060,1000000000115061,1000000000115062,1000000000115072,1000000000115073,1000000000115074])]
abbrev zz9:aa Gp:=[(4,.cO,4,OH),(5,.cO,4,[1000000000108033,1000000000108041,1000000000108046,1000000000108048,1000000000108049,1000000000108050,1000000000108051,1000000000108052,1000000000108054,1000000000108055,1000000000108058,1000000000108059,1000000000108060,1000000000108061,1000000000108062,1000000000108072,1000000000108073,1000000000108074])]
abbrev fA:aa Lm:=[.int .i64,.int .i64,.int .i64,.int .i64]
abbrev OI:aa Lm:=[.int .i64,.own 90101]
abbrev adH:aa (Nat×Rm):=[(2,.aB fA),(4,.aB OI),(6,.aB [.int .i64,.own 90201]),(90101,.sl .int 2),(90201,.sl .int 2)]
abbrev Xe:aa (Nat×Rm):=[(1,.st .cO),(2,.aB fA),(1000000000117000,.sl .int 2),(5,.aB fA)]
abbrev Ep:aa (Nat×Rm):=[(20000,.aB [.own 60000,.own 60001,.int .i64]),(60000,.sl .int 2),(60001,.sl .int 2)]
abbrev mm:aa (Bool×TC×Nat):=[(false,(.sl .int),2)]
abbrev Iy:aa Lm:=[.own 90100,.own 90101,.own 90102]
abbrev adJ:aa (Nat×Rm):=[(6,.aB Iy),(7,.aB [.own 1000000000110000,.own 1000000000110001,.own 1000000000110002]),(90100,.sl .Cell 4),(90101,.sl .int 2),(90102,.sl .int 2),(1000000000110000,.sl .Cell 4),(1000000000110001,.sl .int 4),(1000000000110002,.sl .int 4)]
abbrev qy:bJ:=⟨[(2,tB)],[],[]⟩
abbrev adK:aa (Nat×Rm):=[(1,.aB fA),(2,.aB Iy),(3,.aB [.own 90200,.own 90201,.own 90202]),(90100,.sl .Cell 4),(90101,.sl .int 2),(90102,.sl .int 2),(90200,.sl .Cell 4),(90201,.sl .int 2),(90202,.sl .int 2)]
abbrev oE:aa (Bool×TC):=[(false,(.sl .int))]
abbrev BX:aa Lm:=[.aD .int 0,.int .i64,.bool]
abbrev adL:aa (Nat×Rm):=[(2,.aB Iy),(3,.aB [.own 90200,.own 6,.own 10]),(90100,.sl .Cell 4),(90101,.sl .int 2),(90102,.sl .int 2),(90200,.sl .Cell 4),(6,.sl .int 2),(10,.sl .int 2)]
abbrev lD:aa (Bool×TC):=[(false,.int)]
abbrev Iz:aa (Bool×TC):=[(true,.fM),(true,.oc),(false,.int),(false,.int)]
abbrev vi:bJ:=⟨[(5,tI)],[],[]⟩
abbrev Er:aa Lm:=[.aD .Cell 0,.aD .int 0,.aD .int 0]
abbrev wZ:bJ:=⟨[(4,tI)],[],[]⟩
abbrev Xf:aa (Nat×Rm):=[(1000000000112000,.sl .fN 2)]
abbrev adM:bJ:=⟨[(1,tI),(2,tI),(8,.lf (.own 1000000000112000)),(30,.lf (.own 1000000000112000)),(31,tI),(32,tI)],Xf,[]⟩
abbrev adN:bJ:=⟨[(4,.aG 4 0),(6,.aG 6 0)],[(4,.aB OI),(6,.aB [.int .i64,.own 90201]),(90101,.sl .int 2),(90201,.sl .int 2)],[]⟩
abbrev Es:aa (Bool×TC):=[(false,(.sl .int)),(false,.int)]
abbrev adO:aa (Nat×Rm):=[(18,.sl .int 2),(99004,.sl .int 2),(66,.sl .int 2)]
abbrev adP:bJ:=⟨[(3,.lf (.own 18)),(4,.lf (.own 99004)),(8,.lf (.own 66)),(9,tI)],adO,[]⟩
abbrev BY:aa (Bool×TC):=[(false,.int),(false,.int)]
abbrev Xg:aa (Nat×Rm):=[(1,.aB [.aD .int 0,.aD .int 0,.int .i64])]
abbrev fG:bJ:=⟨[],[],[]⟩
abbrev adQ:aa Gp:=[(4,.cO,4,OH),(6,.cO,4,[1000000000137005,1000000000137013,1000000000119000,1000000000122000,1000000000122001,1000000000125000,1000000000125001,1000000000125002,1000000000146001,1000000000154000,90258,90259,90260,90261,90262,90272,90273,90274])]
abbrev IA:aa Lm:=[.int .i64,.int .i64,.int .i64,.bool,.int .i64,.int .i64]
abbrev adR:aa Gp:=[(20000,.cO,4,[60033,60041,60046,60048,60049,60050,60051,60052,60054,60055,60058,60059,1000000000141000,60061,60062,60072,60073,60074])]
abbrev adS:aa (Nat×Rm):=[(2,.aB BX),(4,.aB [.own 90100,.int .i64,.bool]),(5,.aB [.own 1000000000108000,.int .i64,.bool]),(90100,.sl .int 2),(1000000000108000,.sl .int 2)]
abbrev Xh:bJ:=⟨[(1,tI),(2,.aG 2 0),(4,.aG 4 0),(6,.aG 6 0),(7,tI)],adH,[]⟩
abbrev BZ:aa Lm:=[.aD .int 0,.aD .int 0]
abbrev adT:bJ:=⟨[(5,.aG 5 0),(6,.aG 6 0),(7,.aG 7 0),(9,tI)],[(5,.st .kT),(6,.aB BZ),(7,.aB fA)],[]⟩
abbrev OJ:aa (Bool×TC):=[(false,(.sl .fF)),(false,(.sl .bool))]
abbrev Xi:bJ:=⟨[(0,tI),(1,tI),(5,tI),(6,tI)],[],[]⟩
abbrev adU:bJ:=⟨[(0,.lf (.aD .int 0)),(3,.lf (.own 10)),(12,tI),(13,tI)],[(10,.sl .int 2)],[]⟩
abbrev adV:bJ:=⟨[(1,.aG 1 0),(2,.aG 2 0),(4,.lf (.own 1000000000117000)),(5,.aG 5 0)],Xe,[]⟩
abbrev Xj:bJ:=⟨[(3,.lf (.own 5))],[(5,.sl .int 2)],[]⟩
abbrev adW:aa (Nat×Rm):=[(3,.st .cO),(6,.aB fA),(8,.aB zL),(81,.sl .bool 2),(142,.sl .Command 2),(146,.sl .bool 2)]
abbrev IB:aa (Bool×TC):=[(true,.fM),(false,.int)]
abbrev IC:aa PK:=[.p .cO 4 0,.v false .int]
abbrev adX:bJ:=⟨[(0,.lf (.aD .int 0)),(3,.lf (.own 12)),(4,tI)],[(12,.sl .int 2)],[]⟩
abbrev OK:aa (Bool×TC):=[(false,(.sl .di)),(false,.int)]
abbrev adY:bJ:=⟨[(0,.lf (.aD .fF 0)),(1,.lf (.aD .bool 0)),(5,tI),(6,tI)],[],[]⟩
abbrev adZ:bJ:=⟨[(0,.lf (.aD .fN 0)),(7,.lf (.aD .fN 0)),(8,tI),(9,tI)],[],[]⟩
abbrev Xk:aa (Bool×TC):=[(false,(.sl .fN)),(false,.int),(false,.int)]
abbrev OL:aa Lm:=[.int .i64,.aD .int 0]
abbrev Xl:bJ:=⟨[(2,.aG 2 0),(3,.aG 3 0),(7,tI),(8,tI)],[(2,.aB fA),(3,.aB OL)],[]⟩
abbrev B0:aa Lm:=[.aD .kr 0,.int .i64]
abbrev ID:aa Lm:=[.int .i64,.int .i64,.int .i64]
abbrev ad0:bJ:=⟨[(0,tI),(1,.lf (.aD .di 0)),(9,.lf (.aD .di 0)),(10,tI),(11,tI)],[],[]⟩
abbrev w5:aa (Bool×TC):=[(true,.cO)]
abbrev w6:aa (Bool×TC):=[(true,.fM)]
abbrev ad1:aa (Nat×Tm):=[(2,.aG 20000 50),(12,tI),(75,.lf (.own 1000000000175000)),(76,tI),(77,tI)]
abbrev Et:bJ:=⟨[],[],lC⟩
abbrev ad2:aa (Bool×TC):=[(false,(.sl .di)),(false,(.sl .bool)),(false,(.sl .bool)),(false,.int),(false,.int)]
abbrev OM:aa (Bool×TC×Nat):=[(true,.oe,2),(false,.bool,0)]
abbrev Xm:aa (Nat×Rm):=[(98000,.sl .Addr 1000002)]
abbrev ad3:bJ:=⟨[(0,.lf (.own 98000)),(5,tI)],Xm,[]⟩
abbrev ad4:aa (Nat×Rm):=[(2,.aB fA),(1000000000116000,.sl .Addr 2),(19,.sl .bool 2),(20,.sl .bool 2)]
abbrev ad5:bJ:=⟨[(1,.lf (.aD .bool 0)),(6,.lf (.own 9))],[(9,.sl .fF 2)],[]⟩
abbrev ad6:bJ:=⟨[(1,tI),(2,tI),(8,.lf (.own 1000000000112000))],Xf,[]⟩
abbrev Xn:aa Lm:=[.int .i64,.own 1000000000114001]
abbrev zM:aa PK:=[.p .qT 0 0]
abbrev ON:aa (Bool×TC):=[(true,.fM),(true,.Addr)]
abbrev ad7:aa PK:=[.v true .fM,.v true .r4,.p .cO 4 50,.v false .int,.v false .int]
abbrev ad8:aa (Nat×Rm):=[(11,.sl .Command 2),(1000000000113000,.sl .Addr 2),(14,.sl .bool 2)]
abbrev ad9:bJ:=⟨[(0,.lf (.aD .di 0)),(1,tI),(5,tI)],[],[]⟩
abbrev aea:bJ:=⟨[(0,.lf (.aD .int 0)),(1,tI),(5,tI)],[],[]⟩
abbrev Xo:aa (Bool×TC):=[(false,(.sl .Addr)),(true,.Addr)]
abbrev IE:bJ:=⟨[(6,tI)],[],[]⟩
abbrev aeb:bJ:=⟨[(6,.lf (.own 1000000000112000)),(7,tB)],Xf,[]⟩
abbrev aqH:aa (Nat×Tm):=[(0,.aG 20000 0),(1,tI),(4,tI)]
abbrev aec:aa (Nat×Rm):=[(3,.st .cO),(6,.aB fA),(8,.aB zL),(38,.sl .bool 2)]
abbrev aed:aa (Nat×Rm):=[(4,.st .cO),(7,.aB fA),(8,.aB fA),(16,.sl .bool 2)]
abbrev aee:bJ:=⟨[(2,.aG 2 0),(3,tI)],[(2,.aB fA)],[]⟩
abbrev aef:bJ:=⟨[(3,.lf (.own 6))],[(6,.sl .int 2)],[]⟩
abbrev aeg:aa (Nat×Rm):=[(4,.aB fA),(5,.st .kT),(6,.aB BZ),(7,.aB fA)]
abbrev OO:aa Gp:=[(2,.cO,4,OH)]
abbrev aeh:bJ:=⟨[(0,.lf (.aD .int 0)),(1,tI)],[],[]⟩
abbrev Xp:aa PK:=[.p .cO 4 50,.v false .int]
abbrev Xq:aa (Nat×Rm):=[(1,.st .cO),(3,.aB fA)]
abbrev Eu:aa (Bool×TC):=[(true,.kV)]
abbrev Xr:aa (Bool×TC×Nat):=[(true,.Addr,0),(false,.bool,0)]
abbrev Xs:aa PK:=[.p .qT 0 0,.v false .int]
abbrev aei:aa (Bool×TC):=[(true,.kT),(false,.int),(false,.int),(false,.bool)]
abbrev aej:aa (Bool×TC):=[(true,.fM),(true,.kT),(true,.Command),(true,.Command)]
abbrev aek:aa (Bool×TC):=[(true,.fM),(true,.kT),(true,.kU),(true,.Command)]
abbrev ael:bJ:=⟨[(1,.aG 1 0)],[(1,.st .kT)],[]⟩
abbrev aem:bJ:=⟨[(3,.aG 3 0)],[(3,.aB BZ)],[]⟩
abbrev aen:bJ:=⟨[(1,.aG 1 0)],[(1,.aB BX)],[]⟩
abbrev aeo:aa (Nat×Tm):=[(1,.aG 1 0),(2,.aG 2 0),(3,.aG 3 0),(4,tI)]
abbrev Xt:aa (Bool×TC):=[(true,.Config),(true,.lO)]
abbrev Xu:aa (Bool×TC):=[(true,.fM),(true,.Command)]
abbrev Xv:aa (Bool×TC):=[(true,.kV),(false,.int)]
abbrev Xw:aa (Bool×TC):=[(true,.fM),(true,.oc)]
abbrev aep:bJ:=⟨[(1,.aG 1 0),(3,tI)],Xg,[]⟩
abbrev IF:aa (Bool×TC×Nat):=[(true,.Command,0)]
abbrev aeq:bJ:=⟨[(0,.lf (.aD .fF 0))],[],[]⟩
abbrev aer:aa (Bool×TC):=[(true,.gV),(false,.int),(false,(.sl .Addr))]
abbrev aes:aa PK:=[.p .cO 4 0,.v false .int,.v false .int]
abbrev aet:aa PK:=[.p .cO 4 0,.v true .Command,.v false .int]
abbrev aeu:aa PK:=[.p .qT 0 0,.v true .Config,.v false .int]
abbrev Xx:aa (Nat×Rm):=[(3,.aB B0),(1000000000115000,.sl .int 2)]
abbrev IG:aa (Bool×TC):=[(true,.lO)]
abbrev II:aa (Bool×TC):=[(true,.kT)]
abbrev aev:aa Lm:=[.int .i64,.own 1000000000138001]
abbrev OP:aa (Nat×Rm):=[(7,.sl .Command 2)]
abbrev aew:bJ:=⟨[(0,tI),(3,tI)],[],[]⟩
abbrev aex:aa Lm:=[.own 20001,.int .i64,.int .i64]
abbrev Xy:bJ:=⟨[],[],OG⟩
abbrev aey:aa (Nat×Tm):=[(1,.aG 1 0),(2,.aG 2 0),(3,.aG 3 0)]
abbrev aez:aa (Nat×Tm):=[(1,.aG 1 0),(3,.lf (.own 5)),(4,tI)]
def Xz(C:aa Int):ah (Bool):=some ((C.length:Int) > 1048576)
def aqI:=bw [(false,(.sl .u8))] cm (bR Xz) 6 [] func7
def zN(C:bN):ah ((Int)×(bN×af)):=letI D:=W6 ((W6 (C.h*6364136223846793005))+1442695040888963407);letI E:=bits .and .i64 (bits .xor .i64 (D.fdiv (2 ^ (min (33:Int).toNat IntKind.i64.bits))) (D.fdiv (2 ^ (min (45:Int).toNat IntKind.i64.bits)))) 255;bif C.i<(C.b.length:Int)then xI C.b C.i λI=>some ((bits .and .i64 (W6 (E+(W6 I))) 255),((⟨C.b,(W6 (C.i+1)),D⟩:bN),()))else some (E,((⟨C.b,C.i,D⟩:bN),()))
def aqJ:=jE zM dN (bR zN) 58 [] func94
def eU(C:bN)(D:Int):ah ((Int)×(bN×af)):=bif D <= 0 then some (0,(C,()))else bif D <= 256 then (zN C).bind λE=>if D=0 then none else some ((E.1.tmod D),((⟨C.b,E.2.1.i,E.2.1.h⟩:bN),()))else (zN C).bind λI=>(zN (⟨C.b,I.2.1.i,I.2.1.h⟩:bN)).bind λJ=>(zN (⟨C.b,J.2.1.i,J.2.1.h⟩:bN)).bind λL=>(zN (⟨C.b,L.2.1.i,L.2.1.h⟩:bN)).bind λO=>if D=0 then none else some (((W6 ((W6 ((W6 ((W6 (I.1*16777216))+(W6 (J.1*65536))))+(W6 (L.1*256))))+O.1)).tmod D),((⟨C.b,O.2.1.i,O.2.1.h⟩:bN),()))
def rM:=jE Xs dN (bS eU) 37 [aqJ] func26
def B1(D:bN)(E:Int):ah ((Bool)×(bN×af)):=(eU D E).bind λC=>some ((C.1==0),((⟨D.b,C.2.1.i,C.2.1.h⟩:bN),()))
def OQ:=jE Xs cm (bS B1) 9 [rM] func61
def OR(C:bN):ah ((aM)×(bN×af)):=(eU C 2).bind λD=>(eU (⟨C.b,D.2.1.i,D.2.1.h⟩:bN) 3).bind λE=>(eU (⟨C.b,E.2.1.i,E.2.1.h⟩:bN) 2).bind λI=>some ((⟨1,(W6 (1+D.1)),(W6 (2+E.1)),(W6 (1+I.1))⟩:aM),((⟨C.b,I.2.1.i,I.2.1.h⟩:bN),()))
def aqK:=jE zM [(true,.fM,0)] (bR OR) 13 [rM] func188
def aeA  : ah (c7):=some (⟨3,3,7,2,3,10,2,3,3,6,4,5,4,12,3,4,16⟩:c7)
def aqL:=bw [] [(true,.kT,0)] (xU0 aeA) 2 [] func189
def OS(C:bN):ah ((kQ)×(bN×af)):=(eU C 3).bind λD=>(B1 (⟨C.b,D.2.1.i,D.2.1.h⟩:bN) 2).bind λE=>some ((⟨D.1,E.1⟩:kQ),((⟨C.b,E.2.1.i,E.2.1.h⟩:bN),()))
def aqM:=jE zM [(true,.qR,0)] (bR OS) 8 [rM,OQ] func190
def OT(D:bN):ah ((eT)×(bN×af)):=(OR D).bind λE=>(aeA).bind λC=>(OS (⟨D.b,E.2.1.i,E.2.1.h⟩:bN)).bind λI=>(eU (⟨D.b,I.2.1.i,I.2.1.h⟩:bN) 60).bind λT=>letI J:=W6 (200+T.1);(eU (⟨D.b,T.2.1.i,T.2.1.h⟩:bN) 3).bind λL=>(eU (⟨D.b,L.2.1.i,L.2.1.h⟩:bN) 2).bind λO=>(eU (⟨D.b,O.2.1.i,O.2.1.h⟩:bN) 3).bind λQ=>(B1 (⟨D.b,Q.2.1.i,Q.2.1.h⟩:bN) 3).bind λU=>letI u1:=(⟨D.b,U.2.1.i,U.2.1.h⟩:bN);bif U.1 then (eU u1 5).bind λY=>(eU (⟨D.b,Y.2.1.i,Y.2.1.h⟩:bN) 4).bind λZ=>some ((⟨⟨(W6 (1+O.1)),E.1.aC,(W6 (4+L.1)),E.1.aN⟩,⟨C.jI,C.rp,C.gw,C.nq,C.jJ,C.jK,C.nt,C.nu,(W6 (1+Z.1)),(W6 (4+Y.1)),C.ny,C.nA,C.pT,C.nB,C.n8,C.xp,C.xs⟩,I.1,Q.1,J,16,⟨(W6 (6*J)),40⟩⟩:eT),((⟨D.b,Z.2.1.i,Z.2.1.h⟩:bN),()))else some ((⟨⟨(W6 (1+O.1)),E.1.aC,(W6 (4+L.1)),E.1.aN⟩,C,I.1,Q.1,J,16,⟨(W6 (6*J)),40⟩⟩:eT),(u1,()))
def aqN:=jE zM [(true,.Config,0)] (bR OT) 44 [rM,OQ,aqK,aqL,aqM] func90
def vj(C:dJ):ah (dJ):=bif xZ C.weights then some (⟨C.eS,C.cap,C.eZ,C.low,C.high,(xA C.weights),C.dS⟩:dJ)else none
def OU:=bw IG [(true,.lO,2)] (bR vj) 9 [] func240
def IJ(C:fU):ah (fU):=(vj C.bV).bind λD=>(vj C.next).bind λE=>some (⟨D,E,C.waits⟩:fU)
def XA:=bw [(true,.oe)] [(true,.oe,2)] (bR IJ) 12 [OU] func152
def XB(C:cK):ah (cK):=bif xZ C.aC then some (⟨(xA C.aC),C.bg⟩:cK)else none
def aqO:=bw [(true,.gV)] [(true,.gV,2)] (bR XB) 10 [] func153
def tU(C:dG):ah (dG):=bif xZ C.last then bif xZ C.bf then some (⟨(xA C.last),(xA C.bf)⟩:dG)else none else none
def aeB:=bw [(true,.kU)] [(true,.kU,2)] (bR tU) 12 [] func154
def IK(C:bY):ah (bY):=bif xZ C.symbols then some (⟨(xA C.symbols),C.ir⟩:bY)else none
def aeC:=bw [(true,.Cell)] [(true,.Cell,2)] (bR IK) 9 [] func241
def aqP:bJ:=⟨aeo,[(1,.aB Er),(2,.aB Iy),(3,.aB [.own 90200,.own 5,.own 9]),(90100,.sl .Cell 4),(90101,.sl .int 2),(90102,.sl .int 2),(90200,.sl .Cell 4),(5,.sl .int 2),(9,.sl .int 2)],[]⟩
def aqQ:aa (Nat×bJ):=[(2,⟨[(2,.aG 2 0),(3,.aG 3 0)],[(2,.aB Iy),(3,.aB [.own 90200,.own 5,.own 9]),(90100,.sl .Cell 4),(90101,.sl .int 2),(90102,.sl .int 2),(90200,.sl .Cell 4),(5,.sl .int 2),(9,.sl .int 2)],[]⟩)]
abbrev aeD:=((af×af×af×Int×af)×(((aa bY)×(aa Int)×(aa Int)×af)×(af×af×af×af)×(af×af×af×af)×(aa bY)×(aa Int)×(aa Int)×(aa bY)×(aa Int)×(aa Int)×af))
def IL(x:aeD):ah (aeD⊕(((af×af×af)×((af×af×af×af)×(af×af×af×af)×(aa bY)×(aa Int)×(aa Int)×(aa bY)×(aa Int)×(aa Int)×af))⊕Empty)):=letI I:=x.1.2.2.2.1;letI E:=((),(),(),());letI D:=x.2.2.2.2.2;letI C:=D.2.2;bif I<(x.2.1.1.length:Int)then xI x.2.1.1 I λL=>(IK L).bind λJ=>bif bC (C.1.length+[J].length)then xG (((),(),(),(W6 (I+1)),()),(x.2.1,E,E,x.2.2.2.2.1,D.1,D.2.1,(C.1++[J]),C.2.1,C.2.2.1,()))else none else ay (((),(),()),(E,E,x.2.2.2.2.1,D.1,D.2.1,C.1,C.2.1,C.2.2.1,()))
def aqR:KY 33 (aZ f155):=⟨0,lB 0 aqP aqQ IL,lp [aeC]⟩
def OV(C:dm):ah (dm):=bif xZ C.bz then bif xZ C.br then bu IL (((),(),(),0,()),((C.cells,C.bz,C.br,()),((),(),(),()),((),(),(),()),([]:aa bY),([]:aa Int),([]:aa Int),([]:aa bY),(xA C.bz),(xA C.br),())) λE=>letI D:=E.2.2.2.2.2.2;some (⟨D.1,D.2.1,D.2.2.1⟩:dm)else none else none
def aqS:=cg [(true,.Array)] [(true,.Array,4)] (bR OV) 33 [] [aqR] func155
def IM(C:dH):ah (dH):=bif xZ C.map then some (⟨C.bP,(xA C.map)⟩:dH)else none
def aeE:=bw [(true,.oc)] [(true,.oc,2)] (bR IM) 10 [] func156
def B2(C:cY):ah (cY):=bif xZ C.aJ then some (⟨(xA C.aJ),C.wait,C.dD⟩:cY)else none
def XC:=bw Eu [(true,.kV,2)] (bR B2) 9 [] func157
def IN(C:cr):ah (cr):=bif xZ C.rows then bif xZ C.counts then some (⟨(xA C.rows),(xA C.counts),C.dc⟩:cr)else none else none
def aeF:=bw [(true,.gD)] [(true,.gD,2)] (bR IN) 14 [] func158
def aqT:bJ:=⟨[(1,.aG 1 0),(2,.aG 2 0),(3,.lf (.own 29)),(4,tI)],zz3,OO⟩
def aqU:aa (Nat×bJ):=[(2,⟨[(1,.aG 1 0),(2,.aG 2 0),(3,.lf (.own 29))],zz3,OO⟩)]
abbrev aeG:=((af×af×af×Int×af)×(av×(Int×Int×Int×Int×Int×Int×Int×Int×Int×Int×Int×Int×Int×Int×Int×Int×Int×Int×Int×Int×Int×Int×Bool×Int×Int×Int×Int×Int×Int×Int×Int×Int×Int×af×Int×Int×Int×Int×Int×Int×Int×af×Int×Int×Bool×Int×af×Int×af×af×af×af×af×Int×af×af×Int×Bool×(aa cr)×(aa Int)×(aa aK)×(aa aX)×(aa cw)×Bool×Int×Int×Int×Int×Int×Int×Int×Int×(aa cv)×(aa eY)×(aa eM)×af)×(aa cr)×(aa Int)×(aa Int)×(aa eP)×(aa Int)×(aa Int)×(aa bY)×(aa Int)×(aa Int)×(aa Int)×(aa Int)×af))
def Ev(x:aeG):ah (aeG⊕(((af×af×af×af)×(av×(Int×Int×Int×Int×Int×Int×Int×Int×Int×Int×Int×Int×Int×Int×Int×Int×Int×Int×Int×Int×Int×Int×Bool×Int×Int×Int×Int×Int×Int×Int×Int×Int×Int×af×Int×Int×Int×Int×Int×Int×Int×af×Int×Int×Bool×Int×af×Int×af×af×af×af×af×Int×af×af×Int×Bool×(aa cr)×(aa Int)×(aa aK)×(aa aX)×(aa cw)×Bool×Int×Int×Int×Int×Int×Int×Int×Int×(aa cv)×(aa eY)×(aa eM)×af)×(aa cr)×(aa Int)×(aa Int)×(aa eP)×(aa Int)×(aa Int)×(aa bY)×(aa Int)×(aa Int)×(aa Int)×(aa Int)×af))⊕Empty)):=letI I:=x.1.2.2.2.1;letI C:=x.2.2.2;letI J:=x.2.2.1.2.2.2.2.2.2.2.2.2.2.2.2.2.2.2.2.2.2.2.2.2.2.2.2.2.2.2.2.2.2.2.2.2.2.2.2.2.2.2.2.2.2.2.2.2.2.2.2.2.2.2.2.2.2.2.2.2.2.1;letI E:=C.2.2.2.2;letI D:=E.2.2.2;bif I<(J.length:Int)then xI J I λO=>(IN O).bind λL=>bif bC (C.1.length+[L].length)then xG (((),(),(),(W6 (I+1)),()),(x.2.1,x.2.2.1,(C.1++[L]),C.2.1,C.2.2.1,C.2.2.2.1,E.1,E.2.1,E.2.2.1,D.1,D.2.1,D.2.2.1,D.2.2.2.1,()))else none else ay (((),(),(),()),(x.2.1,x.2.2.1,C.1,C.2.1,C.2.2.1,C.2.2.2.1,E.1,E.2.1,E.2.2.1,D.1,D.2.1,D.2.2.1,D.2.2.2.1,()))
def aqV:KY 84 (aZ f70):=⟨0,lB 0 aqT aqU Ev,lp [aeF]⟩
def OW(C:av):ah (av):=(IJ C.box).bind λD=>(XB C.bq).bind λy2=>(tU C.ready).bind λy3=>(OV C.array).bind λy4=>(IM C.spare).bind λy5=>(B2 C.aQ).bind λy6=>bu Ev (((),(),(),0,()),((⟨⟨⟨0,0,0,0⟩,⟨0,0,0,0,0,0,0,0,0,0,0,0,0,0,0,0,0⟩,⟨0,false⟩,0,0,0,⟨0,0⟩⟩,⟨⟨0,0,0,0,0,([]:aa Int),⟨0,0⟩⟩,⟨0,0,0,0,0,([]:aa Int),⟨0,0⟩⟩,false⟩,0,⟨([]:aa eP),0⟩,⟨([]:aa Int),([]:aa Int)⟩,⟨([]:aa bY),([]:aa Int),([]:aa Int)⟩,⟨0,([]:aa Int)⟩,⟨([]:aa Int),0,false⟩,([]:aa cr),([]:aa Int),([]:aa aK),([]:aa aX),([]:aa cw),⟨false,0,0⟩,⟨0,0,0⟩,⟨0,0,0⟩,([]:aa cv),([]:aa eY),([]:aa eM)⟩:av),(C.config.az.cu,C.config.az.aC,C.config.az.rows,C.config.az.aN,C.config.bL.jI,C.config.bL.rp,C.config.bL.gw,C.config.bL.nq,C.config.bL.jJ,C.config.bL.jK,C.config.bL.nt,C.config.bL.nu,C.config.bL.iY,C.config.bL.wr,C.config.bL.ny,C.config.bL.nA,C.config.bL.pT,C.config.bL.nB,C.config.bL.n8,C.config.bL.xp,C.config.bL.xs,C.config.mapping.order,C.config.mapping.hash,C.config.bP,C.config.interval,C.config.gU,C.config.dU.bz,C.config.dU.br,D.bV.eS,D.bV.cap,D.bV.eZ,D.bV.low,D.bV.high,(),D.bV.dS.down,D.bV.dS.sleep,D.next.eS,D.next.cap,D.next.eZ,D.next.low,D.next.high,(),D.next.dS.down,D.next.dS.sleep,D.waits,C.now,(),y2.bg,(),(),(),(),(),y5.bP,(),(),y6.wait,y6.dD,C.bO,C.guard,C.pending,C.queue,C.shares,C.drain.on,C.drain.low,C.drain.high,C.bg.state,C.bg.since,C.bg.idle,C.cM.next,C.cM.every,C.cM.wait,C.errors,C.trace,C.cz,()),([]:aa cr),D.bV.weights,D.next.weights,y2.aC,y3.last,y3.bf,y4.cells,y4.bz,y4.br,y5.map,y6.aJ,())) λiJ=>letI E:=iJ.2.2;letI J:=E.1.2.2.2.2;letI Y:=E.2.2.2.2.2;letI Z:=Y.2.2.2;letI u3:=J.2.2.2.2.2;letI w7:=u3.2.2.2;letI u7:=w7.2.2.2;letI zO:=u7.2.2.2;letI u1:=zO.2.2.2;letI w8:=u1.2.2.2;letI u8:=w8.2.2.2;letI OX:=u8.2.2.2;letI u2:=OX.2.2.2.2;letI Q:=u2.2.2.2;letI L:=Q.2.2.2.2.2;letI u14:=L.2.2.2.2.2.2.2.2.2.2.2;letI T:=u14.2.2.2;letI U:=T.2.2.2.2;letI u16:=U.2.2;letI O:=u16.2.2.2.2;letI I:=O.2.2.2.2.2;bif xZ T.2.2.2.1 then bif xZ U.1 then bif xZ U.2.1 then bif xZ u16.1 then bif xZ I.2.1 then bif xZ I.2.2.1 then bif xZ I.2.2.2.1 then some (⟨⟨⟨E.1.1,E.1.2.1,E.1.2.2.1,E.1.2.2.2.1⟩,⟨J.1,J.2.1,J.2.2.1,J.2.2.2.1,J.2.2.2.2.1,u3.1,u3.2.1,u3.2.2.1,w7.1,w7.2.1,w7.2.2.1,u7.1,u7.2.1,u7.2.2.1,zO.1,zO.2.1,zO.2.2.1⟩,⟨u1.1,u1.2.1⟩,u1.2.2.1,w8.1,w8.2.1,⟨w8.2.2.1,u8.1⟩⟩,⟨⟨u8.2.1,u8.2.2.1,OX.1,OX.2.1,OX.2.2.1,E.2.2.1,⟨u2.1,u2.2.1⟩⟩,⟨u2.2.2.1,Q.1,Q.2.1,Q.2.2.1,Q.2.2.2.1,E.2.2.2.1,⟨L.1,L.2.1⟩⟩,L.2.2.1⟩,L.2.2.2.1,⟨E.2.2.2.2.1,L.2.2.2.2.2.1⟩,⟨Y.1,Y.2.1⟩,⟨Y.2.2.1,Z.1,Z.2.1⟩,⟨u14.1,Z.2.2.1⟩,⟨Z.2.2.2.1,T.1,T.2.1⟩,E.2.1,(xA T.2.2.2.1),(xA U.1),(xA U.2.1),(xA u16.1),⟨u16.2.1,u16.2.2.1,u16.2.2.2.1⟩,⟨O.1,O.2.1,O.2.2.1⟩,⟨O.2.2.2.1,O.2.2.2.2.1,I.1⟩,(xA I.2.1),(xA I.2.2.1),(xA I.2.2.2.1)⟩:av)else none else none else none else none else none else none else none
def aqW:=cg w5 [(true,.cO,4)] (bR OW) 84 [XA,aqO,aeB,aqS,aeE,XC] [aqV] func70
def cP(C D E:Int):ah (Bool):=bif C >= D then some (C <= E)else some false
def ff:=bw [(false,.int),(false,.int),(false,.int)] cm (fz cP) 15 [] func95
def xb(C:aM):ah (Bool):=(cP C.cu 1 2).bind λD=>bif D then (cP C.aC 1 4).bind λE=>bif E then (cP C.rows 2 16).bind λI=>bif I then (cP C.aN 1 8).bind λJ=>some J else some false else some false else some false
def Ew:=bw w6 cm (bR xb) 21 [ff] func27
def mV(C:aM):ah (Int):=(xb C).bind λD=>bif (!D)then some 0 else some (W6 (C.cu*C.aC))
def mq:=bw w6 dN (bR mV) 11 [Ew] func28
abbrev aeH:=((Int×af×af×af×Int×af)×((Int×Int×Int×Int×af)×(Int×af×af)×(Int×af×af)×(aa Int)×(aa Int)×af))
def IP(x:aeH):ah (aeH⊕(((af×af×af)×((Int×af×af)×(Int×af×af)×(aa Int)×(aa Int)×af))⊕Empty)):=letI C:=x.2.2.2;letI D:=x.1.2.2.2.2.1;letI E:=W6 (x.2.1.2.2.1-x.1.1);letI I:=([(D.tmod E)]:aa Int);(mV (⟨x.2.1.1,x.2.1.2.1,x.2.1.2.2.1,x.2.1.2.2.2.1⟩:aM)).bind λJ=>bif D<(W6 (J*E))then if E=0 then none else bif bC (C.2.2.1.length+I.length)then xG ((x.1.1,(),(),(),(W6 (D+1)),()),(x.2.1,x.2.2.1,C.1,C.2.1,(C.2.2.1++I),()))else none else ay (((),(),()),(x.2.2.1,C.1,C.2.1,C.2.2.1,()))
def aqX:KY 49 (aZ f96):=⟨0,lB 0 Xh [(2,adN)] IP,lp [mq]⟩
def Ex(C:aM)(D:Int):ah (dH×Bool):=letI E:=some ((⟨0,[]⟩:dH),false);(xb C).bind λJ=>bif (!J)then E else (cP D 0 2).bind λL=>bif (!L)then E else bif (W6 (C.rows-D))<2 then E else bu IP ((D,(),(),(),0,()),((C.cu,C.aC,C.rows,C.aN,()),(0,(),()),(D,(),()),([]:aa Int),([]:aa Int),())) λI=>some ((⟨I.2.2.1.1,I.2.2.2.2.1⟩:dH),true)
def XD:=cg IB [(true,.oc,2),(false,.bool,0)] (bS Ex) 49 [Ew,ff] [aqX] func96
def OY(D:aM):ah (cK):=(mV D).bind λC=>if 0 <= C/\C <= C/\C<1073741824 then some (⟨(List.replicate C.toNat (⟨false,0⟩:eP)),0⟩:cK)else none
def aqY:=bw w6 [(true,.gV,2)] (bR OY) 7 [mq] func134
def XE(C:c7):ah ((aa Int)):=some ([C.jI,C.rp,C.gw,C.nq,C.jJ,C.jK,C.nt,C.nu,C.iY,C.wr,C.ny,C.nA,C.pT,C.nB,C.n8,C.xp,C.xs]:aa Int)
def aqZ:=bw II mm (bR XE) 38 [] func345
abbrev aeI:=((af×af×Int×af)×(c7×(aa Int)×af))
def Ey(x:aeI):ah (aeI⊕(((Bool×af)×(af))⊕(((af×af)×(c7×af))⊕Empty))):=bif x.1.2.2.1<(x.2.2.1.length:Int)then xL x.2.2.1 x.1.2.2.1 λC=>(cP C 1 64).bind λD=>bif (!D)then ay ((false,()),())else xG (((),(),(W6 (x.1.2.2.1+1)),()),(x.2.1,x.2.2.1,()))else aV (((),()),(x.2.1,()))
def aq0:KY 45 (aZ f317):=⟨0,lB 0 ⟨[(1,.aG 1 0),(3,.lf (.own 1000000000106000)),(4,tI)],[(1,.st .kT),(1000000000106000,.sl .int 2)],[]⟩ [(1,qy),(2,ael)] Ey,lp [ff]⟩
def B3(D:c7):ah (Bool):=(XE D).bind λE=>bQ Ey (((),(),0,()),(D,E,())) (λI=>some I.1.1) λJ=>letI C:=J.2.1;bif C.jI <= C.gw then bif C.nq <= C.jJ then bif C.nt <= C.nu then some (C.ny <= C.nA)else some false else some false else some false
def OZ:=cg II cm (bR B3) 45 [aqZ] [aq0] func317
def Ez(C:kQ):ah (Bool):=(cP C.order 0 2).bind λD=>some D
def aeJ:=bw [(true,.qR)] cm (bR Ez) 6 [ff] func318
def IQ(C:c7):ah (Int):=(B3 C).bind λD=>bif (!D)then some 0 else some (W6 (2*(W6 ((W6 ((W6 ((W6 ((W6 ((W6 ((W6 ((W6 ((W6 (C.n8+C.xp))+C.gw))+C.wr))+C.iY))+C.rp))+C.nB))+C.jI))+(W6 (8*C.jJ))))+16))))
def aq1:=bw II dN (bR IQ) 35 [OZ] func319
def O0(C:eT):ah (Bool):=(Ex C.az C.bP).bind λD=>bif (!D.2)then some false else (B3 C.bL).bind λE=>bif (!E)then some false else (Ez C.mapping).bind λI=>bif (!I)then some false else (IQ C.bL).bind λJ=>(cP C.interval J 10000).bind λL=>bif (!L)then some false else (cP C.gU 1 16).bind λO=>bif O then (cP C.dU.bz (W6 (6*C.interval)) 100000).bind λQ=>bif Q then (cP C.dU.br 0 100000).bind λT=>some T else some false else some false
def aq2:=bw [(true,.Config)] cm (bR O0) 54 [ff,XD,OZ,aeJ,aq1] func242
def EA(C:gx):ah (Bool):=bif C.low >= 0 then bif C.high <= 12 then some (C.low<C.high)else some false else some false
def XF:=bw [(true,.od)] cm (bR EA) 18 [] func167
abbrev aeK:=(((aa cw)×Int×af)×(af))
def IS(x:aeK):ah (aeK⊕(((Bool×af)×(af))⊕((((aa cw)×af)×(af))⊕Empty))):=letI C:=x.1.2.1;bif C<(x.1.1.length:Int)then xI x.1.1 C λD=>(cP D.weight 1 9).bind λE=>bif (!E)then ay ((false,()),())else xI x.1.1 C λI=>xI x.1.1 C λJ=>(cP I.fy 0 J.weight).bind λL=>bif (!L)then ay ((false,()),())else xG ((x.1.1,(W6 (C+1)),()),())else aV ((x.1.1,()),())
def aq3:KY 34 (aZ f166):=⟨0,lB 0 ⟨[(0,.lf (.aD .fF 0)),(3,tI)],[],[]⟩ [(1,qy),(2,aeq)] IS,lp [ff]⟩
def IT(C:aa cw):ah (Bool):=bQ IS ((C,0,()),()) (λD=>some D.1.1) λE=>(cP (E.1.1.length:Int) 1 4).bind λI=>some I
def aeL:=cg [(false,(.sl .fF))] cm (bR IT) 34 [ff] [aq3] func166
abbrev aeM:=(((aa Int)×af×Int×af)×((aa cw)×af))
def IU(x:aeM):ah (aeM⊕(((af×af)×((aa cw)×af))⊕Empty)):=letI D:=ay (((),()),(x.2.1,()));letI C:=x.1.2.2.1;bif C<(x.1.1.length:Int)then bif C <= 4 then xI x.1.1 C λI=>xI x.1.1 C λJ=>letI E:=([(⟨I,J⟩:cw)]:aa cw);bif bC (x.2.1.length+E.length)then xG ((x.1.1,(),(W6 (C+1)),()),((x.2.1++E),()))else none else D else D
def aq4:KY 34 (aZ f279):=⟨0,lB 0 ⟨[(0,.lf (.aD .int 0)),(4,.lf (.own 6)),(5,tI)],[(6,.sl .fF 2)],[]⟩ [(2,⟨[(4,.lf (.own 6))],[(6,.sl .fF 2)],[]⟩)] IU,lp []⟩
def zP(D:aa Int):ah ((aa cw)×Bool):=bu IU ((D,(),0,()),(([]:aa cw),())) λC=>(IT C.2.1).bind λE=>bif (!E)then some (([]:aa cw),false)else some (C.2.1,true)
def XG:=cg oE [(false,(.sl .fF),2),(false,.bool,0)] (bR zP) 34 [aeL] [aq4] func279
def IV(C:n9):ah (Bool):=(cP C.down 1 10000).bind λD=>bif D then bif C.sleep > C.down then some (C.sleep <= 20000)else some false else some false
def aeN:=bw [(true,.r5)] cm (bR IV) 18 [ff] func299
def EB(C:dJ):ah (Bool):=(zP C.weights).bind λD=>(cP C.eS 0 1).bind λE=>bif E then (cP C.cap 0 100000).bind λI=>bif I then (cP C.eZ 3 1000).bind λJ=>bif J then (EA (⟨false,C.low,C.high⟩:gx)).bind λL=>bif L then bif D.2 then bif ((C.weights.length:Int)==4)then (IV C.dS).bind λO=>some O else some false else some false else some false else some false else some false else some false
def XH:=bw IG cm (bR EB) 46 [ff,XF,XG,aeN] func243
def O1(C:Int):ah (Int):=(cP C 3 1000).bind λD=>bif (!D)then some 0 else some (W6 ((W6 (2*C))+2))
def aq5:=bw lD dN (bR O1) 9 [ff] func244
def B4(C:eT)(D:dJ):ah (Bool):=letI E:=W6 (C.bL.gw+C.bL.rp);(O0 C).bind λI=>bif (!I)then some false else (EB D).bind λJ=>bif (!J)then some false else (O1 D.eZ).bind λL=>bif (W6 (L+2)) <= C.dU.br then if E=0 then none else some ((W6 ((W6 (C.gU+1))*D.eZ)) > (W6 ((W6 ((W6 (5*C.interval)).tdiv E))+2)))else some false
def aeO:=bw Xt cm (bS B4) 42 [aq2,XH,aq5] func159
abbrev aeP:=((Int×af×Int×af)×((aa Int)×af))
def IW(x:aeP):ah (aeP⊕(((af×af)×((aa Int)×af))⊕Empty)):=letI C:=x.1.2.2.1;bif C<x.1.1 then xL x.2.1 C λD=>xG ((x.1.1,(),(W6 (C+1)),()),((x.2.1.set C.toNat (-1:Int)),()))else ay (((),()),(x.2.1,()))
def aq6:KY 16 (aZ f324):=⟨0,lB 0 ⟨[(0,tI),(3,.lf (.own 6)),(4,tI)],[(6,.sl .int 2)],[]⟩ [(2,aef)] IW,lp []⟩
def IX(C:Int):ah ((aa Int)):=if 0 <= C/\C <= C/\C<1073741824 then bu IW ((C,(),0,()),((List.replicate C.toNat (0:Int)),())) λD=>some D.2.1 else none
def aeQ:=cg lD mm (bR IX) 16 [] [aq6] func324
def EC(C:Int):ah (cr×Bool):=(cP C 1 16).bind λD=>bif (!D)then some ((⟨[],[],0⟩:cr),false)else (IX C).bind λE=>if 0 <= C/\C <= C/\C<1073741824 then some ((⟨E,(List.replicate C.toNat (0:Int)),0⟩:cr),true)else none
def aeR:=bw lD [(true,.gD,2),(false,.bool,0)] (bR EC) 13 [ff,aeQ] func264
def O2(C:aM):ah (dG):=(xb C).bind λD=>bif (!D)then some (⟨[],[]⟩:dG)else (mV C).bind λE=>(IX (W6 (9*(W6 (E+1))))).bind λI=>some (⟨I,[]⟩:dG)
def aq7:=bw w6 [(true,.kU,2)] (bR O2) 13 [Ew,mq,aeQ] func275
def tV(C:aM):ah (Int):=(xb C).bind λD=>bif (!D)then some 0 else (mV C).bind λE=>some (W6 ((W6 (E*C.rows))*C.aN))
def IY:=bw w6 dN (bR tV) 14 [Ew,mq] func10
def aq8:bJ:=⟨aeo,adK,[]⟩
def aq9:aa (Nat×bJ):=[(2,⟨aey,adK,[]⟩)]
abbrev aeS:=((af×af×af×Int×af)×((Int×Int×Int×Int×af)×(af×af×af×af)×(af×af×af×af)×(aa bY)×(aa Int)×(aa Int)×(aa bY)×(aa Int)×(aa Int)×af))
def IZ(x:aeS):ah (aeS⊕(((af×af×af×af)×((Int×Int×Int×Int×af)×(af×af×af×af)×(af×af×af×af)×(aa bY)×(aa Int)×(aa Int)×(aa bY)×(aa Int)×(aa Int)×af))⊕Empty)):=letI I:=(11:Int);letI J:=(⟨(List.replicate I.toNat (0:Int)),false⟩:bY);letI D:=((),(),(),());letI E:=x.2.2.2.2.2;letI C:=E.2.2;(tV (⟨x.2.1.1,x.2.1.2.1,x.2.1.2.2.1,x.2.1.2.2.2.1⟩:aM)).bind λL=>bif x.1.2.2.2.1<L then if 0 <= I/\I <= 11/\I<1073741824 then bif bC (C.1.length+[J].length)then xG (((),(),(),(W6 (x.1.2.2.2.1+1)),()),(x.2.1,D,D,x.2.2.2.2.1,E.1,E.2.1,(C.1++[J]),C.2.1,C.2.2.1,()))else none else none else ay (D,(x.2.1,D,D,x.2.2.2.2.1,E.1,E.2.1,C.1,C.2.1,C.2.2.1,()))
def ara:KY 39 (aZ f276):=⟨0,lB 0 aq8 aq9 IZ,lp [IY]⟩
def O3(E:aM):ah (dm):=letI C:=(0:Int);bu IZ (((),(),(),0,()),((E.cu,E.aC,E.rows,E.aN,()),((),(),(),()),((),(),(),()),([]:aa bY),([]:aa Int),([]:aa Int),([]:aa bY),([]:aa Int),([]:aa Int),())) λI=>letI J:=I.2.1.2;letI L:=(⟨I.2.1.1,J.1,J.2.1,J.2.2.1⟩:aM);letI O:=if 0 <= C/\C <= 0/\C<1073741824 then if 0 <= C/\C <= 0/\C<1073741824 then some (⟨I.2.2.2.2.2.2.2.1,(List.replicate C.toNat C),(List.replicate C.toNat C)⟩:dm)else none else none;(mV L).bind λQ=>letI D:=W6 (Q*J.2.1);bif D<0 then O else (xb L).bind λT=>bif (!T)then O else if 0 <= D/\D <= D/\D<1073741824 then if 0 <= D/\D <= D/\D<1073741824 then some (⟨I.2.2.2.2.2.2.2.1,(List.replicate D.toNat C),(List.replicate D.toNat C)⟩:dm)else none else none
def arb:=cg w6 [(true,.Array,4)] (bR O3) 39 [Ew,mq] [ara] func276
end Go.Proofs.YtglnbhiaknohlaaGreat
